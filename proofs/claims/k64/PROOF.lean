import PyProof.Rows.All
import HandS.ForMost
import HandS.Strs
import HandS.Flow
import HandS.Small
import HandS.Deep
import HandS.SortInts
import HandS.TupLe
import HandS.DictComp
import HandS.NoneIn
import HandS.IsInst
import HandS.Defaults
import HandS.HeadEnd
import HandS.Head0
import HandS.Head1
import HandS.Head2
import HandS.HeadHook1
import HandS.HeadHook2
import PyProof.Rows.ReprR
import PyProof.Rows.ReprOcc
import PySem.Challenge.RW_circlesettle_k64_terms_that_are_no_more
set_option Elab.async false
set_option linter.all false
set_option maxRecDepth 100000
set_option maxHeartbeats 4000000
/-! DL0: values as trees (D), how the abstract heap bears them (Rep), the state of a def whose slots hold trees (Sta). -/
namespace DL
open PySem PySem.Spec PyProof.Rows L2

inductive D where
  | non | bl (b : Bool) | int (i : Int) | str (x : Str) | tup (xs : List D) | lst (xs : List D)
  | dct (ks : List Key) (vs : List D) | set (w : World) (xs : List Int) | scr (xs : List Int)

abbrev Ss := List (Option V)
/-- H' has all that H has -/
abbrev Sm (H H' : Hp) : Prop := ∀ b o, H b = some o → H' b = some o

mutual
def Rep (G : Hp) : D → V → Prop
  | .non, v => v = .non
  | .bl b, v => v = .bl b
  | .int i, v => v = .int i
  | .str x, v => v = .str x
  | .tup ds, v => ∃ a vs, v = .ref a ∧ G a = some (.tup vs) ∧ Reps G ds vs
  | .lst ds, v => ∃ a vs, v = .ref a ∧ G a = some (.lst vs) ∧ Reps G ds vs
  | .dct ks ds, v => ∃ a kvs, v = .ref a ∧ G a = some (.dK kvs) ∧ kvs.map (·.1) = ks ∧ Reps G ds (kvs.map (·.2))
  | .set w xs, v => ∃ a, v = .ref a ∧ xs.Nodup ∧ G a = some (SetO w a (fun i => xs.contains i) xs.length)
  | .scr xs, v => ∃ a, v = .ref a ∧ Rd G a (.lst (xs.map V.int))
def Reps (G : Hp) : List D → List V → Prop
  | [], vs => vs = []
  | d :: ds, vs => ∃ v r, vs = v :: r ∧ Rep G d v ∧ Reps G ds r
end

mutual
theorem Rep.mono {G G' : Hp} (k : Sm G G') : ∀ {d : D} {v : V}, Rep G d v → Rep G' d v
  | .non, _, h => by simpa [Rep] using h
  | .bl _, _, h => by simpa [Rep] using h
  | .int _, _, h => by simpa [Rep] using h
  | .str _, _, h => by simpa [Rep] using h
  | .tup ds, _, h => by
    simp only [Rep] at h ⊢
    obtain ⟨a, vs, e, g, r⟩ := h
    exact ⟨a, vs, e, k _ _ g, Reps.mono k r⟩
  | .lst ds, _, h => by
    simp only [Rep] at h ⊢
    obtain ⟨a, vs, e, g, r⟩ := h
    exact ⟨a, vs, e, k _ _ g, Reps.mono k r⟩
  | .dct ks ds, _, h => by
    simp only [Rep] at h ⊢
    obtain ⟨a, vs, e, g, hk, r⟩ := h
    exact ⟨a, vs, e, k _ _ g, hk, Reps.mono k r⟩
  | .set _ xs, _, h => by
    simp only [Rep] at h ⊢
    obtain ⟨a, e, n, g⟩ := h
    exact ⟨a, e, n, k _ _ g⟩
  | .scr xs, _, h => by
    simp only [Rep] at h ⊢
    obtain ⟨a, e, g⟩ := h
    refine ⟨a, e, ?_⟩
    rcases g with g | ⟨o, g⟩
    · exact .inl (k _ _ g)
    · exact .inr ⟨o, k _ _ g⟩
theorem Reps.mono {G G' : Hp} (k : Sm G G') : ∀ {ds : List D} {vs : List V}, Reps G ds vs → Reps G' ds vs
  | [], _, h => by simpa [Reps] using h
  | d :: ds, _, h => by
    simp only [Reps] at h ⊢
    obtain ⟨v, r, e, h1, h2⟩ := h
    exact ⟨v, r, e, Rep.mono k h1, Reps.mono k h2⟩
end

section
variable {G : Hp}
theorem Reps.nil : Reps G [] [] := by simp [Reps]
theorem Reps.cons {d : D} {v : V} {ds : List D} {vs : List V} (h : Rep G d v) (t : Reps G ds vs) : Reps G (d :: ds) (v :: vs) := by
  simp only [Reps]; exact ⟨v, vs, rfl, h, t⟩
theorem Reps.inv {d : D} {ds : List D} {vs : List V} (h : Reps G (d :: ds) vs) : ∃ v r, vs = v :: r ∧ Rep G d v ∧ Reps G ds r := by
  simpa only [Reps] using h
theorem Reps.inv0 {vs : List V} (h : Reps G [] vs) : vs = [] := by simpa only [Reps] using h
theorem Reps.length : ∀ {ds : List D} {vs : List V}, Reps G ds vs → ds.length = vs.length
  | [], _, h => by rw [h.inv0]; rfl
  | d :: ds, _, h => by
    obtain ⟨v, r, rfl, _, t⟩ := h.inv
    simp [Reps.length t]
theorem Reps.get : ∀ {ds : List D} {vs : List V} {i : Nat} {d : D}, Reps G ds vs → ds[i]? = some d → ∃ v, vs[i]? = some v ∧ Rep G d v
  | [], _, _, _, _, e => by simp at e
  | d :: ds, _, 0, d', h, e => by
    obtain ⟨v, r, rfl, hd, _⟩ := h.inv
    simp at e; subst e
    exact ⟨v, by simp, hd⟩
  | d :: ds, _, i + 1, d', h, e => by
    obtain ⟨v, r, rfl, _, t⟩ := h.inv
    obtain ⟨u, h1, h2⟩ := Reps.get (i := i) t (by simpa using e)
    exact ⟨u, by simpa using h1, h2⟩
theorem Reps.append : ∀ {ds es : List D} {vs us : List V}, Reps G ds vs → Reps G es us → Reps G (ds ++ es) (vs ++ us)
  | [], _, _, _, h, k => by rw [h.inv0]; exact k
  | d :: ds, _, _, _, h, k => by
    obtain ⟨v, r, rfl, hd, t⟩ := h.inv
    exact .cons hd (Reps.append t k)
theorem Reps.set : ∀ {ds : List D} {vs : List V} (i : Nat) {d : D} {v : V}, Reps G ds vs → Rep G d v → Reps G (ds.set i d) (vs.set i v)
  | [], _, _, _, _, h, _ => by rw [h.inv0]; simpa using Reps.nil
  | d :: ds, _, 0, _, _, h, k => by
    obtain ⟨v, r, rfl, hd, t⟩ := h.inv
    exact .cons k t
  | d :: ds, _, i + 1, _, _, h, k => by
    obtain ⟨v, r, rfl, hd, t⟩ := h.inv
    exact .cons hd (Reps.set i t k)
theorem Reps.drop : ∀ {ds : List D} {vs : List V} (n : Nat), Reps G ds vs → Reps G (ds.drop n) (vs.drop n)
  | _, _, 0, h => h
  | [], _, n + 1, h => by rw [h.inv0]; simpa using Reps.nil
  | d :: ds, _, n + 1, h => by
    obtain ⟨v, r, rfl, _, t⟩ := h.inv
    simpa using Reps.drop n t
theorem Reps.take : ∀ {ds : List D} {vs : List V} (n : Nat), Reps G ds vs → Reps G (ds.take n) (vs.take n)
  | _, _, 0, _ => by simpa using Reps.nil
  | [], _, n + 1, h => by rw [h.inv0]; simpa using Reps.nil
  | d :: ds, _, n + 1, h => by
    obtain ⟨v, r, rfl, hd, t⟩ := h.inv
    simpa using Reps.cons hd (Reps.take n t)
theorem Reps.eraseIdx : ∀ {ds : List D} {vs : List V} (i : Nat), Reps G ds vs → Reps G (ds.eraseIdx i) (vs.eraseIdx i)
  | [], _, _, h => by rw [h.inv0]; simpa using Reps.nil
  | d :: ds, _, 0, h => by
    obtain ⟨v, r, rfl, hd, t⟩ := h.inv
    simpa using t
  | d :: ds, _, i + 1, h => by
    obtain ⟨v, r, rfl, hd, t⟩ := h.inv
    simpa using Reps.cons hd (Reps.eraseIdx i t)
theorem Reps.mem_get {ds : List D} {vs : List V} (h : Reps G ds vs) : ∀ (i : Nat) (v : V), vs[i]? = some v → ∃ d, ds[i]? = some d ∧ Rep G d v := fun i v e => by
  have hl := h.length
  have hi : i < vs.length := by
    rcases Nat.lt_or_ge i vs.length with q | q
    · exact q
    · rw [List.getElem?_eq_none q] at e; cases e
  have hi' : i < ds.length := by omega
  obtain ⟨v', e', r⟩ := h.get (List.getElem?_eq_getElem hi')
  rw [e] at e'; cases e'
  exact ⟨_, List.getElem?_eq_getElem hi', r⟩
/-- scalars lean on no heap -/
def scal : D → Bool
  | .non => true | .bl _ => true | .int _ => true | .str _ => true | _ => false
theorem Rep.scal {G' : Hp} {d : D} {v : V} (h : Rep G d v) (s : scal d = true) : Rep G' d v := by
  cases d <;> first
    | (simp only [Rep] at h ⊢; exact h)
    | (simp [DL.scal] at s)
theorem Rep.non_iff {v : V} : Rep G .non v ↔ v = .non := by simp [Rep]
theorem Rep.bl_iff {b : Bool} {v : V} : Rep G (.bl b) v ↔ v = .bl b := by simp [Rep]
theorem Rep.int_iff {i : Int} {v : V} : Rep G (.int i) v ↔ v = .int i := by simp [Rep]
theorem Rep.str_iff {x : Str} {v : V} : Rep G (.str x) v ↔ v = .str x := by simp [Rep]
theorem Rep.tup_iff {ds : List D} {v : V} : Rep G (.tup ds) v ↔ ∃ a vs, v = .ref a ∧ G a = some (.tup vs) ∧ Reps G ds vs := by simp [Rep]
theorem Rep.lst_iff {ds : List D} {v : V} : Rep G (.lst ds) v ↔ ∃ a vs, v = .ref a ∧ G a = some (.lst vs) ∧ Reps G ds vs := by simp [Rep]
theorem Rep.dct_iff {ks : List Key} {ds : List D} {v : V} : Rep G (.dct ks ds) v ↔ ∃ a kvs, v = .ref a ∧ G a = some (.dK kvs) ∧ kvs.map (·.1) = ks ∧ Reps G ds (kvs.map (·.2)) := by simp [Rep]
theorem Rep.set_iff {w : World} {xs : List Int} {v : V} : Rep G (.set w xs) v ↔ ∃ a, v = .ref a ∧ xs.Nodup ∧ G a = some (SetO w a (fun i => xs.contains i) xs.length) := by simp [Rep]
theorem Rep.scr_iff {xs : List Int} {v : V} : Rep G (.scr xs) v ↔ ∃ a, v = .ref a ∧ Rd G a (.lst (xs.map V.int)) := by simp [Rep]
theorem Rep.int {i : Int} : Rep G (.int i) (.int i) := by simp [Rep]
theorem Rep.bl {b : Bool} : Rep G (.bl b) (.bl b) := by simp [Rep]
theorem Rep.non : Rep G .non .non := by simp [Rep]
theorem Rep.str {x : Str} : Rep G (.str x) (.str x) := by simp [Rep]
theorem Reps.ints : ∀ (ns : List Int), Reps G (ns.map D.int) (ns.map V.int)
  | [] => .nil
  | n :: ns => .cons .int (Reps.ints ns)
theorem Reps.ints_inv : ∀ {ns : List Int} {vs : List V}, Reps G (ns.map D.int) vs → vs = ns.map V.int
  | [], _, h => h.inv0
  | n :: ns, _, h => by
    obtain ⟨v, r, rfl, hd, t⟩ := h.inv
    rw [Rep.int_iff.mp hd, Reps.ints_inv t]; rfl
theorem Reps.bls_inv : ∀ {ns : List Bool} {vs : List V}, Reps G (ns.map D.bl) vs → vs = ns.map V.bl
  | [], _, h => h.inv0
  | n :: ns, _, h => by
    obtain ⟨v, r, rfl, hd, t⟩ := h.inv
    rw [Rep.bl_iff.mp hd, Reps.bls_inv t]; rfl
end

/-! ### slots -/
/-- a slot: nothing, a value that never changes any more, or a thing of this def's own -/
inductive Sl where
  | un | fz (d : D) | ow (d : D)
abbrev Env := List Sl

/-- a thing of one's own at v: at an address that nothing else knows; what it holds never changes any more -/
def Own (B G H : Hp) (d : D) (v : V) : Prop :=
  ∃ a, v = .ref a ∧ B a = none ∧ G a = none ∧ match d with
    | .lst ds => ∃ vs, H a = some (.lst vs) ∧ Reps G ds vs
    | .dct ks ds => ∃ kvs, H a = some (.dK kvs) ∧ kvs.map (·.1) = ks ∧ Reps G ds (kvs.map (·.2))
    | .set w xs => xs.Nodup ∧ H a = some (SetO w a (fun i => xs.contains i) xs.length)
    | _ => False

def SlOk (B G H : Hp) : Sl → Option V → Prop
  | .un, _ => True
  | .fz d, o => ∃ v, o = some v ∧ Rep G d v
  | .ow d, o => ∃ v, o = some v ∧ Own B G H d v

/-- B: the abstract heap at the entry, Bg: the part of it that never changes; G: the part of H that never changes -/
structure Sta (B Bg G H : Hp) (ρ : Env) (σ : Ss) : Prop where
  old : Sm B H
  oldG : Sm Bg G
  sub : Sm G H
  new : ∀ a, Bg a = none → G a ≠ none → B a = none
  len : ρ.length = σ.length
  sl : ∀ (i : Nat) (s : Sl), ρ[i]? = some s → ∃ o, σ[i]? = some o ∧ SlOk B G H s o
  dist : ∀ (i j : Nat) (d e : D), ρ[i]? = some (.ow d) → ρ[j]? = some (.ow e) → i ≠ j → σ[i]? ≠ σ[j]?

/-- a step of an expression: what is frozen stays, nothing becomes owned, nothing but owned things changes, what is newly frozen is new -/
structure Stp (σ : Ss) (G H : Hp) (ρ : Env) (G' H' : Hp) (ρ' : Env) : Prop where
  g : Sm G G'
  ow : ∀ (i : Nat) (d' : D), ρ'[i]? = some (.ow d') → ∃ d, ρ[i]? = some (.ow d)
  keep : ∀ b o, H b = some o → (∀ (i : Nat) (d : D), ρ[i]? = some (.ow d) → σ[i]? ≠ some (some (.ref b))) → H' b = some o
  dom : ∀ b, H b ≠ none → H' b ≠ none
  new : ∀ a, G a = none → G' a ≠ none → H a = none ∨ ∃ (i : Nat) (d : D), ρ[i]? = some (.ow d) ∧ σ[i]? = some (some (.ref a))

theorem Stp.refl {σ : Ss} {G H : Hp} {ρ : Env} : Stp σ G H ρ G H ρ :=
  ⟨fun _ _ h => h, fun _ d h => ⟨d, h⟩, fun _ _ h _ => h, fun _ h => h, fun _ h n => absurd h n⟩
theorem Stp.trans {σ : Ss} {G H G1 H1 G2 H2 : Hp} {ρ ρ1 ρ2 : Env} (a : Stp σ G H ρ G1 H1 ρ1) (b : Stp σ G1 H1 ρ1 G2 H2 ρ2) : Stp σ G H ρ G2 H2 ρ2 where
  g := fun c o h => b.g c o (a.g c o h)
  ow := fun i d h => by obtain ⟨d1, h1⟩ := b.ow i d h; exact a.ow i d1 h1
  keep := fun c o h n => b.keep c o (a.keep c o h n) fun i d h1 => by
    obtain ⟨d0, h0⟩ := a.ow i d h1
    exact n i d0 h0
  dom := fun c h => b.dom c (a.dom c h)
  new := fun c h n => by
    by_cases q : G1 c = none
    · rcases b.new c q n with z | ⟨i, d, h1, h2⟩
      · refine .inl ?_
        by_cases y : H c = none
        · exact y
        · exact absurd z (a.dom c y)
      · obtain ⟨d0, h0⟩ := a.ow i d h1
        exact .inr ⟨i, d0, h0, h2⟩
    · exact a.new c h q
theorem Stp.same {σ : Ss} {G H G' H' : Hp} {ρ : Env} (g : Sm G G') (h : Sm H H') (n : ∀ a, G a = none → G' a ≠ none → H a = none) : Stp σ G H ρ G' H' ρ :=
  ⟨g, fun _ d h => ⟨d, h⟩, fun b o e _ => h b o e, fun b e z => (by
    cases q : H b with
    | none => exact e q
    | some o =>
      rw [h b o q] at z
      cases z), fun a e z => .inl (n a e z)⟩

theorem Own.addr {B G H : Hp} {d : D} {v : V} (h : Own B G H d v) : ∃ a, v = .ref a ∧ B a = none ∧ G a = none ∧ H a ≠ none := by
  obtain ⟨a, e, b, g, m⟩ := h
  refine ⟨a, e, b, g, fun z => ?_⟩
  cases d <;> simp only at m
  · obtain ⟨_, m, _⟩ := m; rw [z] at m; cases m
  · obtain ⟨_, m, _⟩ := m; rw [z] at m; cases m
  · obtain ⟨_, m⟩ := m; rw [z] at m; cases m
theorem Own.mono {B G H G' H' : Hp} {d : D} {v : V} (h : Own B G H d v) (g : Sm G G') (hk : ∀ a o, v = .ref a → H a = some o → H' a = some o) (hn : ∀ a, v = .ref a → G' a = none) : Own B G' H' d v := by
  obtain ⟨a, e, b, _, m⟩ := h
  refine ⟨a, e, b, hn a e, ?_⟩
  cases d <;> simp only at m ⊢
  · obtain ⟨vs, m, r⟩ := m; exact ⟨vs, hk a _ e m, r.mono g⟩
  · obtain ⟨vs, m, k, r⟩ := m; exact ⟨vs, hk a _ e m, k, r.mono g⟩
  · exact ⟨m.1, hk a _ e m.2⟩

/-- things are laid, frozen or not; no owned thing is touched -/
theorem Sta.grow {B Bg G H G' H' : Hp} {ρ : Env} {σ : Ss} (S : Sta B Bg G H ρ σ) (g : Sm G G') (h : Sm H H') (sub : Sm G' H') (n : ∀ a, G a = none → G' a ≠ none → H a = none) : Sta B Bg G' H' ρ σ where
  old := fun b o e => h b o (S.old b o e)
  oldG := fun b o e => g b o (S.oldG b o e)
  sub := sub
  new := fun a e z => by
    by_cases q : G a = none
    · have := n a q z
      cases y : B a with
      | none => rfl
      | some o => rw [S.old a o y] at this; cases this
    · exact S.new a e q
  len := S.len
  sl := fun i s e => by
    obtain ⟨o, e1, k⟩ := S.sl i s e
    refine ⟨o, e1, ?_⟩
    cases s with
    | un => trivial
    | fz d => obtain ⟨v, e2, r⟩ := k; exact ⟨v, e2, r.mono g⟩
    | ow d =>
      obtain ⟨v, e2, r⟩ := k
      obtain ⟨a, ea, _, ga, ha⟩ := r.addr
      refine ⟨v, e2, r.mono g (fun a o _ q => h a o q) fun a' e' => ?_⟩
      rw [ea] at e'; cases e'
      cases y : G' a with
      | none => rfl
      | some o => exact absurd (n a ga (by rw [y]; simp)) ha
  dist := S.dist

/-- an owned thing is frozen -/
theorem Sta.freeze {B Bg G H : Hp} {ρ : Env} {σ : Ss} {i : Nat} {d : D} (S : Sta B Bg G H ρ σ) (e : ρ[i]? = some (.ow d)) :
    ∃ v a G', σ[i]? = some (some v) ∧ v = .ref a ∧ Rep G' d v ∧ Sta B Bg G' H (ρ.set i (.fz d)) σ ∧ Stp σ G H ρ G' H (ρ.set i (.fz d)) := by
  obtain ⟨o, e1, v, e2, r⟩ := S.sl i _ e
  obtain ⟨a, ea, ba, ga, ha⟩ := r.addr
  subst e2
  obtain ⟨u, hu⟩ : ∃ u, H a = some u := by
    cases q : H a with
    | none => exact absurd q ha
    | some u => exact ⟨u, rfl⟩
  have g : Sm G (upd G a u) := fun b o q => by
    rw [upd_ne (ne_of_none q ga)]; exact q
  have hil : i < ρ.length := by
    rcases Nat.lt_or_ge i ρ.length with q | q
    · exact q
    · rw [List.getElem?_eq_none q] at e; cases e
  have rp : Rep (upd G a u) d v := by
    obtain ⟨a', ea', _, _, m⟩ := r
    rw [ea] at ea'; cases ea'
    subst ea
    cases d <;> simp only at m
    · obtain ⟨vs, m, r⟩ := m
      rw [hu] at m; cases m
      exact Rep.lst_iff.mpr ⟨a, vs, rfl, upd_same, r.mono g⟩
    · obtain ⟨vs, m, k, r⟩ := m
      rw [hu] at m; cases m
      exact Rep.dct_iff.mpr ⟨a, vs, rfl, upd_same, k, r.mono g⟩
    · obtain ⟨n, m⟩ := m
      rw [hu] at m; cases m
      exact Rep.set_iff.mpr ⟨a, rfl, n, upd_same⟩
  have others : ∀ (j : Nat) (s : Sl), j ≠ i → ρ[j]? = some s → ∃ o, σ[j]? = some o ∧ SlOk B (upd G a u) H s o := fun j s hj q => by
    obtain ⟨o, e3, k⟩ := S.sl j s q
    refine ⟨o, e3, ?_⟩
    cases s with
    | un => trivial
    | fz d' => obtain ⟨w, e4, r'⟩ := k; exact ⟨w, e4, r'.mono g⟩
    | ow d' =>
      obtain ⟨w, e4, r'⟩ := k
      refine ⟨w, e4, r'.mono g (fun _ _ _ q => q) fun a' e' => ?_⟩
      obtain ⟨a2, e5, _, g2, _⟩ := r'.addr
      have ee : a2 = a' := V.ref.inj (e5.symm.trans e')
      subst ee
      have ne : a2 ≠ a := fun z => by
        have := S.dist j i _ _ q e hj
        rw [e3, e4, e5, e1, ea, z] at this
        exact this rfl
      rw [upd_ne ne]; exact g2
  refine ⟨v, a, upd G a u, e1, ea, rp, ⟨S.old, fun b o q => g b o (S.oldG b o q), fun b o q => ?_, fun b q z => ?_, by simpa using S.len, fun j s q => ?_, fun j k d1 d2 q1 q2 hjk => ?_⟩, g, fun j d' q => ?_, fun b o q _ => q, fun b q => q, fun b q z => ?_⟩
  · by_cases hb : b = a
    · subst hb; rw [upd_same] at q; cases q; exact hu
    · rw [upd_ne hb] at q; exact S.sub b o q
  · by_cases hb : b = a
    · subst hb; exact ba
    · rw [upd_ne hb] at z; exact S.new b q z
  · by_cases hj : j = i
    · subst hj
      rw [List.getElem?_set_self hil] at q; cases q
      exact ⟨_, e1, v, rfl, rp⟩
    · rw [List.getElem?_set_ne (Ne.symm hj)] at q
      exact others j s hj q
  · have n1 : j ≠ i := fun z => by subst z; rw [List.getElem?_set_self hil] at q1; cases q1
    have n2 : k ≠ i := fun z => by subst z; rw [List.getElem?_set_self hil] at q2; cases q2
    rw [List.getElem?_set_ne (Ne.symm n1)] at q1
    rw [List.getElem?_set_ne (Ne.symm n2)] at q2
    exact S.dist j k d1 d2 q1 q2 hjk
  · have n1 : j ≠ i := fun z => by subst z; rw [List.getElem?_set_self hil] at q; cases q
    rw [List.getElem?_set_ne (Ne.symm n1)] at q
    exact ⟨d', q⟩
  · by_cases hb : b = a
    · exact .inr ⟨i, d, e, by rw [e1, ea, hb]⟩
    · rw [upd_ne hb] at z; exact absurd q z

end DL

/-! DL1: expressions over trees. A reading is a function of the slots: the value and the slots behind it. -/
namespace DL
open PySem PySem.Spec PyProof.Rows L2

abbrev Ex := Env → Option (D × Env)
abbrev Tx := Env → Option (Bool × Env)
abbrev Ax := Env → Option (List D × Env)

/-! ### readings over the hand layer -/
def tX (f : Ex) : TE := fun σ H Q => ∃ B Bg G ρ d ρ', Sta B Bg G H ρ σ ∧ f ρ = some (d, ρ') ∧
  ∀ v G' H', Sta B Bg G' H' ρ' σ → Stp σ G H ρ G' H' ρ' → Rep G' d v → Q v H'
/-- a new thing of one's own -/
def tO (f : Ex) : TE := fun σ H Q => ∃ B Bg G ρ d ρ', Sta B Bg G H ρ σ ∧ f ρ = some (d, ρ') ∧
  ∀ v G' H', Sta B Bg G' H' ρ' σ → Stp σ G H ρ G' H' ρ' → Own B G' H' d v → (∀ a, v = .ref a → H a = none) → Q v H'
def tT (f : Tx) : TT := fun σ H Q => ∃ B Bg G ρ b ρ', Sta B Bg G H ρ σ ∧ f ρ = some (b, ρ') ∧
  ∀ G' H', Sta B Bg G' H' ρ' σ → Stp σ G H ρ G' H' ρ' → Q b H'
def tL (f : Ax) : TA := fun σ H Q => ∃ B Bg G ρ ds ρ', Sta B Bg G H ρ σ ∧ f ρ = some (ds, ρ') ∧
  ∀ vs G' H', Sta B Bg G' H' ρ' σ → Stp σ G H ρ G' H' ρ' → Reps G' ds vs → Q vs H'
abbrev PX (X : Cx) (e : Expr) (f : Ex) : Prop := PE X e (tX f)
abbrev PN (X : Cx) (e : Expr) (f : Ex) : Prop := PE X e (tO f)
abbrev QT (X : Cx) (e : Expr) (f : Tx) : Prop := PT X e (tT f)
abbrev QW (X : Cx) (e : Expr) (f : Tx) : Prop := PW X e (tT f)
abbrev QA (X : Cx) (es : List Expr) (f : Ax) : Prop := PA X es (tL f)

theorem _root_.L2.PE.weak {X : Cx} {e : Expr} {t u : TE} (h : PE X e t) (w : ∀ σ H Q, u σ H Q → t σ H Q) : PE X e u := ⟨fun pins s σ H Q I q => h.run pins s σ H Q I (w σ H Q q)⟩
theorem _root_.L2.PT.weak {X : Cx} {e : Expr} {t u : TT} (h : PT X e t) (w : ∀ σ H Q, u σ H Q → t σ H Q) : PT X e u := ⟨fun pins s σ H Q I q => h.run pins s σ H Q I (w σ H Q q)⟩
theorem _root_.L2.PW.weak {X : Cx} {e : Expr} {t u : TT} (h : PW X e t) (w : ∀ σ H Q, u σ H Q → t σ H Q) : PW X e u := ⟨fun wh pins s σ H Q I q => h.run wh pins s σ H Q I (w σ H Q q)⟩
theorem _root_.L2.PA.weak {X : Cx} {e : List Expr} {t u : TA} (h : PA X e t) (w : ∀ σ H Q, u σ H Q → t σ H Q) : PA X e u := ⟨fun pos pins s σ H Q I q => h.run pos pins s σ H Q I (w σ H Q q)⟩
theorem _root_.L2.PE.orE {X : Cx} {e : Expr} {t u : TE} (h : PE X e t) (h' : PE X e u) : PE X e (fun σ H Q => t σ H Q ∨ u σ H Q) := ⟨fun pins s σ H Q I q => q.elim (h.run pins s σ H Q I) (h'.run pins s σ H Q I)⟩

/-- a thing of one's own that is new is frozen -/
theorem freezeNew {B Bg G H G' H' : Hp} {ρ ρ' : Env} {σ : Ss} {d : D} {v : V} (S : Sta B Bg G' H' ρ' σ) (T : Stp σ G H ρ G' H' ρ') (o : Own B G' H' d v) (n : ∀ a, v = .ref a → H a = none) (S0 : Sta B Bg G H ρ σ) :
    ∃ G'', Sta B Bg G'' H' ρ' σ ∧ Stp σ G H ρ G'' H' ρ' ∧ Rep G'' d v := by
  obtain ⟨a, ea, ba, ga, ha⟩ := o.addr
  have na := n a ea
  obtain ⟨u, hu⟩ : ∃ u, H' a = some u := by
    cases q : H' a with
    | none => exact absurd q ha
    | some u => exact ⟨u, rfl⟩
  have g : Sm G' (upd G' a u) := fun b o q => by
    rw [upd_ne (ne_of_none q ga)]; exact q
  have rp : Rep (upd G' a u) d v := by
    obtain ⟨a', ea', _, _, m⟩ := o
    rw [ea] at ea'; cases ea'
    subst ea
    cases d <;> simp only at m
    · obtain ⟨vs, m, r⟩ := m
      rw [hu] at m; cases m
      exact Rep.lst_iff.mpr ⟨a, vs, rfl, upd_same, r.mono g⟩
    · obtain ⟨vs, m, k, r⟩ := m
      rw [hu] at m; cases m
      exact Rep.dct_iff.mpr ⟨a, vs, rfl, upd_same, k, r.mono g⟩
    · obtain ⟨n, m⟩ := m
      rw [hu] at m; cases m
      exact Rep.set_iff.mpr ⟨a, rfl, n, upd_same⟩
  have nsl : ∀ (i : Nat) (d' : D), ρ'[i]? = some (.ow d') → σ[i]? ≠ some (some (.ref a)) := fun i d' q z => by
    obtain ⟨d0, q0⟩ := T.ow i d' q
    obtain ⟨o1, e1, w, e2, r1⟩ := S0.sl i _ q0
    obtain ⟨a1, e3, _, _, h1⟩ := r1.addr
    rw [z, e2, e3] at e1
    cases e1
    exact h1 na
  refine ⟨upd G' a u, ⟨S.old, fun b o q => g b o (S.oldG b o q), fun b o q => ?_, fun b q z => ?_, S.len, fun j s q => ?_, S.dist⟩, ⟨fun b o q => g b o (T.g b o q), T.ow, T.keep, T.dom, fun b q z => ?_⟩, rp⟩
  · by_cases hb : b = a
    · subst hb; rw [upd_same] at q; cases q; exact hu
    · rw [upd_ne hb] at q; exact S.sub b o q
  · by_cases hb : b = a
    · subst hb; exact ba
    · rw [upd_ne hb] at z; exact S.new b q z
  · obtain ⟨o1, e1, k⟩ := S.sl j s q
    refine ⟨o1, e1, ?_⟩
    cases s with
    | un => trivial
    | fz d' => obtain ⟨w, e2, r⟩ := k; exact ⟨w, e2, r.mono g⟩
    | ow d' =>
      obtain ⟨w, e2, r⟩ := k
      refine ⟨w, e2, r.mono g (fun _ _ _ q => q) fun a' e' => ?_⟩
      obtain ⟨a2, e3, _, g2, _⟩ := r.addr
      have ee : a2 = a' := V.ref.inj (e3.symm.trans e')
      subst ee
      have ne : a2 ≠ a := fun z => nsl j d' q (by rw [e1, e2, e3, z])
      rw [upd_ne ne]; exact g2
  · by_cases hb : b = a
    · subst hb; exact .inl na
    · rw [upd_ne hb] at z; exact T.new b q z
section
variable {X : Cx} {e a b c : Expr} {pos : Pos}
theorem PN.px {f : Ex} (h : PN X e f) : PX X e f := L2.PE.weak h fun σ H Q ⟨B, Bg, G, ρ, d, ρ', S, hf, q⟩ => ⟨B, Bg, G, ρ, d, ρ', S, hf, fun v G' H' S' T o n => by
  obtain ⟨G'', S2, T2, r⟩ := freezeNew S' T o n S
  exact q v G'' H' S2 T2 r⟩

/-! ### names, constants -/
def eVar (i : Nat) : Ex := fun ρ => match ρ[i]? with
  | some (.fz d) => some (d, ρ)
  | some (.ow d) => some (d, ρ.set i (.fz d))
  | _ => none
theorem x_var (i : Nat) {x : Str} (hN : X.N[i]? = some x := by rfl) (hv : Vis X.env.scope x := by first | exact Or.inl rfl | exact Or.inr (Or.inl rfl) | exact Or.inr (Or.inr rfl)) (hd : (x == ("__debug__" : Str)) = false := by decide)
    (hcd : (x == ("__classdict__" : Str)) = false := by decide) : PX X (.Name x pos) (eVar i) := by
  refine (pv i hN hv hd hcd).weak fun σ H Q ⟨B, Bg, G, ρ, d, ρ', S, hf, q⟩ => ?_
  cases e : ρ[i]? with
  | none => simp [eVar, e] at hf
  | some s =>
    cases s with
    | un => simp [eVar, e] at hf
    | fz d' =>
      simp only [eVar, e, Option.some.injEq, Prod.mk.injEq] at hf
      obtain ⟨rfl, rfl⟩ := hf
      obtain ⟨o, e1, v, e2, r⟩ := S.sl i _ e
      exact ⟨v, by rw [e1, e2], q v G H S .refl r⟩
    | ow d' =>
      simp only [eVar, e, Option.some.injEq, Prod.mk.injEq] at hf
      obtain ⟨rfl, rfl⟩ := hf
      obtain ⟨v, a, G', e1, _, r, S', T⟩ := S.freeze e
      exact ⟨v, e1, q v G' H S' T r⟩
def eC (d : D) : Ex := fun ρ => some (d, ρ)
theorem x_int {i j} : PX X (.Constant (.int i) j pos) (eC (.int i)) := pe_int.weak fun σ H Q ⟨B, Bg, G, ρ, d, ρ', S, hf, q⟩ => by
  simp only [eC, Option.some.injEq, Prod.mk.injEq] at hf
  obtain ⟨rfl, rfl⟩ := hf
  exact q _ G H S .refl .int
theorem x_bl {i j} : PX X (.Constant (.bool i) j pos) (eC (.bl i)) := pe_bl.weak fun σ H Q ⟨B, Bg, G, ρ, d, ρ', S, hf, q⟩ => by
  simp only [eC, Option.some.injEq, Prod.mk.injEq] at hf
  obtain ⟨rfl, rfl⟩ := hf
  exact q _ G H S .refl .bl
theorem x_str {i j} : PX X (.Constant (.str i) j pos) (eC (.str i)) := pe_str.weak fun σ H Q ⟨B, Bg, G, ρ, d, ρ', S, hf, q⟩ => by
  simp only [eC, Option.some.injEq, Prod.mk.injEq] at hf
  obtain ⟨rfl, rfl⟩ := hf
  exact q _ G H S .refl .str
theorem x_non {j} : PX X (.Constant .none j pos) (eC .non) := pe_non.weak fun σ H Q ⟨B, Bg, G, ρ, d, ρ', S, hf, q⟩ => by
  simp only [eC, Option.some.injEq, Prod.mk.injEq] at hf
  obtain ⟨rfl, rfl⟩ := hf
  exact q _ G H S .refl .non

/-! ### operations on values -/
/-- things are laid: frozen ones (G') among others (H') -/
structure Lay (G H G' H' : Hp) : Prop where
  g : Sm G G'
  h : Sm H H'
  sub : Sm G' H'
  new : ∀ a, G a = none → G' a ≠ none → H a = none
theorem Lay.refl {G H : Hp} (s : Sm G H) : Lay G H G H := ⟨fun _ _ q => q, fun _ _ q => q, s, fun _ e n => absurd e n⟩
theorem sm_upd {H : Hp} {p : Addr} {o : HO} (h : H p = none) : Sm H (upd H p o) := fun b u e => by
  rw [upd_ne (ne_of_none e h)]
  exact e
theorem sub_none {G H : Hp} (s : Sm G H) {p : Addr} (h : H p = none) : G p = none := by
  cases q : G p with
  | none => rfl
  | some o => rw [s p o q] at h; cases h
theorem Lay.one {G H : Hp} (s : Sm G H) {p : Addr} {o : HO} (h : H p = none) : Lay G H (upd G p o) (upd H p o) where
  g := sm_upd (sub_none s h)
  h := sm_upd h
  sub := fun b u e => by
    by_cases hb : b = p
    · subst hb; rw [upd_same] at e ⊢; exact e
    · rw [upd_ne hb] at e ⊢; exact s b u e
  new := fun a e n => by
    by_cases hb : a = p
    · subst hb; exact h
    · rw [upd_ne hb] at n; exact absurd e n
theorem Lay.trans {G H G1 H1 G2 H2 : Hp} (a : Lay G H G1 H1) (b : Lay G1 H1 G2 H2) : Lay G H G2 H2 where
  g := fun c o e => b.g c o (a.g c o e)
  h := fun c o e => b.h c o (a.h c o e)
  sub := b.sub
  new := fun c e n => by
    by_cases q : G1 c = none
    · have := b.new c q n
      cases y : H c with
      | none => rfl
      | some o => rw [a.h c o y] at this; cases this
    · exact a.new c e q
theorem Sta.lay {B Bg G H G' H' : Hp} {ρ : Env} {σ : Ss} (S : Sta B Bg G H ρ σ) (l : Lay G H G' H') : Sta B Bg G' H' ρ σ := S.grow l.g l.h l.sub l.new
theorem Stp.lay {σ : Ss} {G H G' H' : Hp} {ρ : Env} (l : Lay G H G' H') : Stp σ G H ρ G' H' ρ := .same l.g l.h l.new
/-- what an operation of two values gives: a value that stands in what is frozen; new things may be laid -/
def OkS (r : R2) (g : D → D → Option D) : Prop := ∀ (G H : Hp) (d e c : D) (x y : V) (Q : VK), Sm G H → Rep G d x → Rep G e y → g d e = some c → (∀ v G' H', Lay G H G' H' → Rep G' c v → Q v H') → r x y H Q
def eBin (g : D → D → Option D) (fa fb : Ex) : Ex := fun ρ => match fa ρ with
  | some (d, ρ1) => (match fb ρ1 with
    | some (e, ρ2) => (match g d e with
      | some c => some (c, ρ2)
      | none => none)
    | none => none)
  | none => none
theorem eBin_inv {g : D → D → Option D} {fa fb : Ex} {ρ ρ' : Env} {c : D} (h : eBin g fa fb ρ = some (c, ρ')) : ∃ d ρ1 e, fa ρ = some (d, ρ1) ∧ fb ρ1 = some (e, ρ') ∧ g d e = some c := by
  unfold eBin at h
  split at h
  · rename_i d ρ1 h1
    split at h
    · rename_i e ρ2 h2
      split at h
      · rename_i c' h3
        simp only [Option.some.injEq, Prod.mk.injEq] at h
        obtain ⟨rfl, rfl⟩ := h
        exact ⟨d, ρ1, e, h1, h2, h3⟩
      · cases h
    · cases h
  · cases h
theorem bin_read {r : R2} {g : D → D → Option D} {fa fb : Ex} (ok : OkS r g) : ∀ σ H Q, tX (eBin g fa fb) σ H Q → tOp r (tX fa) (tX fb) σ H Q := fun σ H Q ⟨B, Bg, G, ρ, c, ρ', S, hf, q⟩ => by
  obtain ⟨d, ρ1, e, h1, h2, h3⟩ := eBin_inv hf
  refine ⟨B, Bg, G, ρ, d, ρ1, S, h1, fun x G1 H1 S1 T1 r1 => ?_⟩
  refine ⟨B, Bg, G1, ρ1, e, ρ', S1, h2, fun y G2 H2 S2 T2 r2 => ?_⟩
  exact ok G2 H2 d e c x y Q S2.sub (r1.mono T2.g) r2 h3 fun v G3 H3 l rv => q v G3 H3 (S2.lay l) ((T1.trans T2).trans (.lay l)) rv
theorem x_op {op : Operator} {r : R2} {g : D → D → Option D} {fa fb : Ex} (ho : OpR X (binaryOp op) r) (ok : OkS r g) (ha : PX X a fa) (hb : PX X b fb) : PX X (.BinOp a op b pos) (eBin g fa fb) := (pe_op ho ha hb).weak (bin_read ok)
theorem x_cmp {op : CmpOp} {r : R2} {g : D → D → Option D} {fa fb : Ex} (ho : OpR X (compareOp op) r) (ok : OkS r g) (ha : PX X a fa) (hb : PX X b fb) (hm : behindInMarks op b = false) : PX X (.Compare a [op] [b] pos) (eBin g fa fb) := (pe_cmpR ho ha hb hm).weak (bin_read ok)
/-- a value's reading as a test: it is a bool -/
def xB (f : Ex) : Tx := fun ρ => match f ρ with
  | some (.bl b, ρ') => some (b, ρ')
  | _ => none
theorem xB_inv {f : Ex} {ρ ρ' : Env} {b : Bool} (h : xB f ρ = some (b, ρ')) : f ρ = some (.bl b, ρ') := by
  unfold xB at h
  split at h
  · rename_i b' ρ2 h1
    simp only [Option.some.injEq, Prod.mk.injEq] at h
    obtain ⟨rfl, rfl⟩ := h
    exact h1
  · cases h
theorem test_read {f : Ex} {t : TE} (ht : ∀ σ H Q, tX f σ H Q → t σ H Q) : ∀ σ H Q, tT (xB f) σ H Q → tTest t σ H Q := fun σ H Q ⟨B, Bg, G, ρ, b, ρ', S, hf, q⟩ =>
  ht σ H _ ⟨B, Bg, G, ρ, .bl b, ρ', S, xB_inv hf, fun v G' H' S' T r => ⟨b, Rep.bl_iff.mp r, q G' H' S' T⟩⟩
theorem q_cmp {op : CmpOp} {r : R2} {g : D → D → Option D} {fa fb : Ex} (ho : OpR X (compareOp op) r) (ok : OkS r g) (ha : PX X a fa) (hb : PX X b fb) (hm : behindInMarks op b = false) : QT X (.Compare a [op] [b] pos) (xB (eBin g fa fb)) :=
  (pt_cmpR ho ha hb hm).weak (test_read (bin_read ok))
/-- a op1 b op2 c -/
def eChain (g g' : D → D → Option D) (fa fb fc : Ex) : Ex := fun ρ => match fa ρ with
  | some (d, ρ1) => (match fb ρ1 with
    | some (e, ρ2) => (match g d e with
      | some (.bl true) => (match fc ρ2 with
        | some (k, ρ3) => (match g' e k with
          | some (.bl c) => some (.bl c, ρ3)
          | _ => none)
        | none => none)
      | some (.bl false) => some (.bl false, ρ2)
      | _ => none)
    | none => none)
  | none => none
theorem chain_read {r r' : R2} {g g' : D → D → Option D} {fa fb fc : Ex} (ok : OkS r g) (ok' : OkS r' g') : ∀ σ H Q, tX (eChain g g' fa fb fc) σ H Q → tChain r r' (tX fa) (tX fb) (tX fc) σ H Q := fun σ H Q ⟨B, Bg, G, ρ, c, ρ', S, hf, q⟩ => by
  unfold eChain at hf
  split at hf
  · rename_i d ρ1 h1
    split at hf
    · rename_i e ρ2 h2
      refine ⟨B, Bg, G, ρ, d, ρ1, S, h1, fun x G1 H1 S1 T1 r1 => ?_⟩
      refine ⟨B, Bg, G1, ρ1, e, ρ2, S1, h2, fun y G2 H2 S2 T2 r2 => ?_⟩
      split at hf
      · rename_i h3
        refine ok G2 H2 d e _ x y _ S2.sub (r1.mono T2.g) r2 h3 fun v G2' H2' l rv => ⟨true, Rep.bl_iff.mp rv, ?_⟩
        refine iteT ?_
        split at hf
        · rename_i k ρ3 h4
          refine ⟨B, Bg, G2', ρ2, k, ρ3, S2.lay l, h4, fun z G3 H3 S3 T3 r3 => ?_⟩
          split at hf
          · rename_i c' h5
            simp only [Option.some.injEq, Prod.mk.injEq] at hf
            obtain ⟨rfl, rfl⟩ := hf
            exact ok' G3 H3 e k _ y z Q S3.sub ((r2.mono l.g).mono T3.g) r3 h5 fun v G4 H4 l4 rv => q v G4 H4 (S3.lay l4) ((((T1.trans T2).trans (.lay l)).trans T3).trans (.lay l4)) rv
          · cases hf
        · cases hf
      · rename_i h3
        simp only [Option.some.injEq, Prod.mk.injEq] at hf
        obtain ⟨rfl, rfl⟩ := hf
        refine ok G2 H2 d e _ x y _ S2.sub (r1.mono T2.g) r2 h3 fun v G3 H3 l rv => ⟨false, Rep.bl_iff.mp rv, ?_⟩
        refine iteF ?_
        exact q _ G3 H3 (S2.lay l) ((T1.trans T2).trans (.lay l)) .bl
      · cases hf
    · cases hf
  · cases hf
theorem q_chain {op op' : CmpOp} {r r' : R2} {g g' : D → D → Option D} {fa fb fc : Ex} (ho : OpR X (compareOp op) r) (ho' : OpR X (compareOp op') r') (ok : OkS r g) (ok' : OkS r' g') (ha : PX X a fa) (hb : PX X b fb) (hc : PX X c fc)
    (hm : lastMarks [op, op'] [b, c] = false := by with_unfolding_all rfl) : QT X (.Compare a [op, op'] [b, c] pos) (xB (eChain g g' fa fb fc)) := (pt_chain ho ho' ha hb hc hm).weak (test_read (chain_read ok ok'))
theorem x_chain {op op' : CmpOp} {r r' : R2} {g g' : D → D → Option D} {fa fb fc : Ex} (ho : OpR X (compareOp op) r) (ho' : OpR X (compareOp op') r') (ok : OkS r g) (ok' : OkS r' g') (ha : PX X a fa) (hb : PX X b fb) (hc : PX X c fc)
    (hm : lastMarks [op, op'] [b, c] = false := by with_unfolding_all rfl) : PX X (.Compare a [op, op'] [b, c] pos) (eChain g g' fa fb fc) := (pe_chain ho ho' ha hb hc hm).weak (chain_read ok ok')

/-! ### truth -/
def truD : D → Option Bool
  | .non => some false
  | .bl b => some b
  | .int i => some (i != 0)
  | .lst ds => some (!ds.isEmpty)
  | .tup ds => some (!ds.isEmpty)
  | _ => none
theorem truD_ok {K : PySem.W.Frag} {G H : Hp} {d : D} {v : V} {k : Bool} (g : Sm G H) (r : Rep G d v) (h : truD d = some k) : TruV K v H k := by
  cases d with
  | non => rw [Rep.non_iff.mp r]; simp [truD] at h; subst h; rfl
  | bl b => rw [Rep.bl_iff.mp r]; simp [truD] at h; subst h; rfl
  | int i => rw [Rep.int_iff.mp r]; simp only [truD, Option.some.injEq] at h; subst h; rfl
  | lst ds =>
    obtain ⟨a, vs, rfl, ga, rs⟩ := Rep.lst_iff.mp r
    simp only [truD, Option.some.injEq] at h
    refine .inl ⟨vs, .of (g _ _ ga), ?_⟩
    subst h
    have := rs.length
    cases ds <;> cases vs <;> simp_all
  | tup ds =>
    obtain ⟨a, vs, rfl, ga, rs⟩ := Rep.tup_iff.mp r
    simp only [truD, Option.some.injEq] at h
    refine .inr (.inl ⟨vs, .of (g _ _ ga), ?_⟩)
    subst h
    have := rs.length
    cases ds <;> cases vs <;> simp_all
  | _ => simp [truD] at h
/-- by truth -/
def xTru (f : Ex) : Tx := fun ρ => match f ρ with
  | some (d, ρ') => (match truD d with
    | some b => some (b, ρ')
    | none => none)
  | none => none
theorem xTru_inv {f : Ex} {ρ ρ' : Env} {b : Bool} (h : xTru f ρ = some (b, ρ')) : ∃ d, f ρ = some (d, ρ') ∧ truD d = some b := by
  unfold xTru at h
  split at h
  · rename_i d ρ2 h1
    split at h
    · rename_i b' h2
      simp only [Option.some.injEq, Prod.mk.injEq] at h
      obtain ⟨rfl, rfl⟩ := h
      exact ⟨d, h1, h2⟩
    · cases h
  · cases h
theorem q_truth {f : Ex} (ha : PX X a f) (he : ∀ whole, isTrue a X.env whole = (do let v ← whole; standAt a.pos; holding [v] (truthy v)) := by intro _; rfl) : QT X a (xTru f) :=
  (pt_truth ha he).weak fun σ H Q ⟨B, Bg, G, ρ, b, ρ', S, hf, q⟩ => by
    obtain ⟨d, h1, h2⟩ := xTru_inv hf
    exact ⟨B, Bg, G, ρ, d, ρ', S, h1, fun v G' H' S' T r => ⟨b, truD_ok S'.sub r h2, q G' H' S' T⟩⟩

/-! ### and, or, not -/
def xAnd (f g : Tx) : Tx := fun ρ => match f ρ with
  | some (true, ρ1) => g ρ1
  | some (false, ρ1) => some (false, ρ1)
  | none => none
def xOr (f g : Tx) : Tx := fun ρ => match f ρ with
  | some (true, ρ1) => some (true, ρ1)
  | some (false, ρ1) => g ρ1
  | none => none
def xNot (f : Tx) : Tx := fun ρ => match f ρ with
  | some (b, ρ1) => some (!b, ρ1)
  | none => none
section
variable {f g : Tx} {rest : List Expr}
theorem q_and1 (ha : QT X a f) : QW X (.BoolOp .And [a] pos) f := pw_and1 ha
theorem q_or1 (ha : QT X a f) : QW X (.BoolOp .Or [a] pos) f := pw_or1 ha
theorem q_and (ha : QT X a f) (hb : QW X (.BoolOp .And (b :: rest) pos) g) : QW X (.BoolOp .And (a :: b :: rest) pos) (xAnd f g) := (pw_and ha hb).weak fun σ H Q ⟨B, Bg, G, ρ, k, ρ', S, hf, q⟩ => by
  unfold xAnd at hf
  split at hf
  · rename_i ρ1 h1
    refine ⟨B, Bg, G, ρ, true, ρ1, S, h1, fun G1 H1 S1 T1 => ?_⟩
    refine iteT ?_
    exact ⟨B, Bg, G1, ρ1, k, ρ', S1, hf, fun G2 H2 S2 T2 => q G2 H2 S2 (T1.trans T2)⟩
  · rename_i ρ1 h1
    simp only [Option.some.injEq, Prod.mk.injEq] at hf
    obtain ⟨rfl, rfl⟩ := hf
    refine ⟨B, Bg, G, ρ, false, ρ1, S, h1, fun G1 H1 S1 T1 => ?_⟩
    refine iteF ?_
    exact q G1 H1 S1 T1
  · cases hf
theorem q_or (ha : QT X a f) (hb : QW X (.BoolOp .Or (b :: rest) pos) g) : QW X (.BoolOp .Or (a :: b :: rest) pos) (xOr f g) := (pw_or ha hb).weak fun σ H Q ⟨B, Bg, G, ρ, k, ρ', S, hf, q⟩ => by
  unfold xOr at hf
  split at hf
  · rename_i ρ1 h1
    simp only [Option.some.injEq, Prod.mk.injEq] at hf
    obtain ⟨rfl, rfl⟩ := hf
    refine ⟨B, Bg, G, ρ, true, ρ1, S, h1, fun G1 H1 S1 T1 => ?_⟩
    refine iteT ?_
    exact q G1 H1 S1 T1
  · rename_i ρ1 h1
    refine ⟨B, Bg, G, ρ, false, ρ1, S, h1, fun G1 H1 S1 T1 => ?_⟩
    refine iteF ?_
    exact ⟨B, Bg, G1, ρ1, k, ρ', S1, hf, fun G2 H2 S2 T2 => q G2 H2 S2 (T1.trans T2)⟩
  · cases hf
theorem q_not (ha : QT X a f) : QT X (.UnaryOp .Not a pos) (xNot f) := (pt_not ha).weak fun σ H Q ⟨B, Bg, G, ρ, k, ρ', S, hf, q⟩ => by
  unfold xNot at hf
  split at hf
  · rename_i b ρ1 h1
    simp only [Option.some.injEq, Prod.mk.injEq] at hf
    obtain ⟨rfl, rfl⟩ := hf
    exact ⟨B, Bg, G, ρ, b, ρ1, S, h1, fun G1 H1 S1 T1 => q G1 H1 S1 T1⟩
  · cases hf
end
/-- as values -/
def eAnd (f g : Ex) : Ex := fun ρ => match f ρ with
  | some (d, ρ1) => (match truD d with
    | some true => g ρ1
    | some false => some (d, ρ1)
    | none => none)
  | none => none
def eOr (f g : Ex) : Ex := fun ρ => match f ρ with
  | some (d, ρ1) => (match truD d with
    | some true => some (d, ρ1)
    | some false => g ρ1
    | none => none)
  | none => none
def eNot (f : Ex) : Ex := fun ρ => match f ρ with
  | some (d, ρ1) => (match truD d with
    | some b => some (.bl (!b), ρ1)
    | none => none)
  | none => none
section
variable {f g : Ex} {rest : List Expr}
theorem x_one {op} (h : PX X a f) : PX X (.BoolOp op [a] pos) f := pe_one h
theorem x_and (ha : PX X a f) (hb : PX X (.BoolOp .And (b :: rest) pos) g) : PX X (.BoolOp .And (a :: b :: rest) pos) (eAnd f g) := (pe_andT ha hb).weak fun σ H Q ⟨B, Bg, G, ρ, k, ρ', S, hf, q⟩ => by
  unfold eAnd at hf
  split at hf
  · rename_i d ρ1 h1
    refine ⟨B, Bg, G, ρ, d, ρ1, S, h1, fun v G1 H1 S1 T1 r1 => ?_⟩
    split at hf
    · rename_i h2
      refine ⟨true, truD_ok S1.sub r1 h2, ?_⟩
      refine iteT ?_
      exact ⟨B, Bg, G1, ρ1, k, ρ', S1, hf, fun v G2 H2 S2 T2 r2 => q v G2 H2 S2 (T1.trans T2) r2⟩
    · rename_i h2
      simp only [Option.some.injEq, Prod.mk.injEq] at hf
      obtain ⟨rfl, rfl⟩ := hf
      refine ⟨false, truD_ok S1.sub r1 h2, ?_⟩
      refine iteF ?_
      exact q v G1 H1 S1 T1 r1
    · cases hf
  · cases hf
theorem x_or (ha : PX X a f) (hb : PX X (.BoolOp .Or (b :: rest) pos) g) : PX X (.BoolOp .Or (a :: b :: rest) pos) (eOr f g) := (pe_orT ha hb).weak fun σ H Q ⟨B, Bg, G, ρ, k, ρ', S, hf, q⟩ => by
  unfold eOr at hf
  split at hf
  · rename_i d ρ1 h1
    refine ⟨B, Bg, G, ρ, d, ρ1, S, h1, fun v G1 H1 S1 T1 r1 => ?_⟩
    split at hf
    · rename_i h2
      simp only [Option.some.injEq, Prod.mk.injEq] at hf
      obtain ⟨rfl, rfl⟩ := hf
      refine ⟨true, truD_ok S1.sub r1 h2, ?_⟩
      refine iteT ?_
      exact q v G1 H1 S1 T1 r1
    · rename_i h2
      refine ⟨false, truD_ok S1.sub r1 h2, ?_⟩
      refine iteF ?_
      exact ⟨B, Bg, G1, ρ1, k, ρ', S1, hf, fun v G2 H2 S2 T2 r2 => q v G2 H2 S2 (T1.trans T2) r2⟩
    · cases hf
  · cases hf
theorem x_not (ha : PX X a f) : PX X (.UnaryOp .Not a pos) (eNot f) := (pe_notT ha).weak fun σ H Q ⟨B, Bg, G, ρ, k, ρ', S, hf, q⟩ => by
  unfold eNot at hf
  split at hf
  · rename_i d ρ1 h1
    refine ⟨B, Bg, G, ρ, d, ρ1, S, h1, fun v G1 H1 S1 T1 r1 => ?_⟩
    split at hf
    · rename_i b h2
      simp only [Option.some.injEq, Prod.mk.injEq] at hf
      obtain ⟨rfl, rfl⟩ := hf
      exact ⟨b, truD_ok S1.sub r1 h2, q _ G1 H1 S1 T1 .bl⟩
    · cases hf
  · cases hf
end
def eIf (c : Tx) (f g : Ex) : Ex := fun ρ => match c ρ with
  | some (true, ρ1) => f ρ1
  | some (false, ρ1) => g ρ1
  | none => none
theorem x_if {fc : Tx} {f g : Ex} (hc : QT X c fc) (ha : PX X a f) (hb : PX X b g) : PX X (.IfExp c a b pos) (eIf fc f g) := (pe_ifExp hc ha hb).weak fun σ H Q ⟨B, Bg, G, ρ, k, ρ', S, hf, q⟩ => by
  unfold eIf at hf
  split at hf
  · rename_i ρ1 h1
    refine ⟨B, Bg, G, ρ, true, ρ1, S, h1, fun G1 H1 S1 T1 => ?_⟩
    refine iteT ?_
    exact ⟨B, Bg, G1, ρ1, k, ρ', S1, hf, fun v G2 H2 S2 T2 r2 => q v G2 H2 S2 (T1.trans T2) r2⟩
  · rename_i ρ1 h1
    refine ⟨B, Bg, G, ρ, false, ρ1, S, h1, fun G1 H1 S1 T1 => ?_⟩
    refine iteF ?_
    exact ⟨B, Bg, G1, ρ1, k, ρ', S1, hf, fun v G2 H2 S2 T2 r2 => q v G2 H2 S2 (T1.trans T2) r2⟩
  · cases hf

/-! ### looking without taking: a scalar out of things that may be one's own -/
def Sl.fzd : Sl → Sl
  | .ow d => .fz d
  | s => s
def eBor (f : Ex) : Ex := fun ρ => match f (ρ.map Sl.fzd) with
  | some (d, _) => if scal d then some (d, ρ) else none
  | none => none
theorem Own.rep {B G H : Hp} {d : D} {v : V} (s : Sm G H) (h : Own B G H d v) : Rep H d v := by
  obtain ⟨a, rfl, _, _, m⟩ := h
  cases d <;> simp only at m
  · obtain ⟨vs, m, r⟩ := m; exact Rep.lst_iff.mpr ⟨a, vs, rfl, m, r.mono s⟩
  · obtain ⟨vs, m, k, r⟩ := m; exact Rep.dct_iff.mpr ⟨a, vs, rfl, m, k, r.mono s⟩
  · obtain ⟨n, m⟩ := m; exact Rep.set_iff.mpr ⟨a, rfl, n, m⟩
theorem Sta.all {B Bg G H : Hp} {ρ : Env} {σ : Ss} (S : Sta B Bg G H ρ σ) : Sta H H H H (ρ.map Sl.fzd) σ where
  old := fun _ _ q => q
  oldG := fun _ _ q => q
  sub := fun _ _ q => q
  new := fun _ e n => absurd e n
  len := by simpa using S.len
  sl := fun i s e => by
    rw [List.getElem?_map] at e
    cases q : ρ[i]? with
    | none => rw [q] at e; cases e
    | some s0 =>
      rw [q] at e
      simp only [Option.map_some, Option.some.injEq] at e
      obtain ⟨o, e1, k⟩ := S.sl i s0 q
      refine ⟨o, e1, ?_⟩
      subst e
      cases s0 with
      | un => trivial
      | fz d => obtain ⟨v, e2, r⟩ := k; exact ⟨v, e2, r.mono S.sub⟩
      | ow d => obtain ⟨v, e2, r⟩ := k; exact ⟨v, e2, r.rep S.sub⟩
  dist := fun i j d e h _ _ => by
    rw [List.getElem?_map] at h
    cases q : ρ[i]? with
    | none => rw [q] at h; cases h
    | some s => rw [q] at h; cases s <;> simp [Sl.fzd] at h
theorem x_bor {f : Ex} (h : PX X e f) : PX X e (eBor f) := h.weak fun σ H Q ⟨B, Bg, G, ρ, d, ρ', S, hf, q⟩ => by
  unfold eBor at hf
  split at hf
  · rename_i d' ρ2 h1
    split at hf
    · rename_i hs
      simp only [Option.some.injEq, Prod.mk.injEq] at hf
      obtain ⟨rfl, rfl⟩ := hf
      refine ⟨H, H, H, _, d', ρ2, S.all, h1, fun v G' H' S' T r => ?_⟩
      have k : Sm H H' := S'.old
      exact q v G H' (S.grow (fun _ _ z => z) k (fun b o z => k b o (S.sub b o z)) (fun a e n => absurd e n)) (.same (fun _ _ z => z) k fun a e n => absurd e n) (r.scal hs)
    · cases hf
  · cases hf
def xBor (f : Tx) : Tx := fun ρ => match f (ρ.map Sl.fzd) with
  | some (d, _) => some (d, ρ)
  | none => none
theorem q_bor {f : Tx} (h : QT X e f) : QT X e (xBor f) := h.weak fun σ H Q ⟨B, Bg, G, ρ, d, ρ', S, hf, q⟩ => by
  unfold xBor at hf
  split at hf
  · rename_i d' ρ2 h1
    simp only [Option.some.injEq, Prod.mk.injEq] at hf
    obtain ⟨rfl, rfl⟩ := hf
    refine ⟨H, H, H, _, d', ρ2, S.all, h1, fun G' H' S' T => ?_⟩
    have k : Sm H H' := S'.old
    exact q G H' (S.grow (fun _ _ z => z) k (fun b o z => k b o (S.sub b o z)) (fun a e n => absurd e n)) (.same (fun _ _ z => z) k fun a e n => absurd e n)
  · cases hf
end
end DL

/-! DL2: operations on trees. -/
namespace DL
open PySem PySem.Spec PyProof.Rows L2

/-! ### plain data -/
mutual
def py : Nat → D → Bool
  | _, .non => true
  | _, .bl _ => true
  | _, .int _ => true
  | _, .str x => PyData.strOk x
  | n + 1, .lst ds => pys n ds
  | n + 1, .tup ds => pys n ds
  | _, _ => false
def pys : Nat → List D → Bool
  | _, [] => true
  | n, d :: ds => py n d && pys n ds
end
mutual
def toPy : D → PyData
  | .non => .none
  | .bl b => .bool b
  | .int i => .int i
  | .str x => .str x
  | .tup ds => .tuple (toPys ds)
  | .lst ds => .list (toPys ds)
  | _ => .none
def toPys : List D → List PyData
  | [] => []
  | d :: ds => toPy d :: toPys ds
end
theorem toPys_map : ∀ ds : List D, toPys ds = ds.map toPy
  | [] => rfl
  | d :: ds => by simp [toPys, toPys_map ds]
theorem pys_all (n : Nat) : ∀ ds : List D, pys n ds = ds.all (py n)
  | [] => by simp [pys]
  | d :: ds => by simp [pys, pys_all n ds]
mutual
theorem py_lay : ∀ {d : D} {n : Nat}, py n d = true → (toPy d).canLay0 = true ∧ (toPy d).depth ≤ n
  | .non, n, _ => by simp [toPy, PyData.canLay0, PyData.depth]
  | .bl b, n, _ => by simp [toPy, PyData.canLay0, PyData.depth]
  | .int i, n, _ => by simp [toPy, PyData.canLay0, PyData.depth]
  | .str x, n, h => by
    have h' : PyData.strOk x = true := by cases n <;> simpa [py] using h
    simp [toPy, PyData.canLay0, PyData.depth, h']
  | .lst ds, 0, h => by simp [py] at h
  | .lst ds, n + 1, h => by
    have h' : pys n ds = true := by simpa [py] using h
    have := pys_lay h'
    simp only [toPy, PyData.canLay0, PyData.depth]
    exact ⟨this.1, by omega⟩
  | .tup ds, 0, h => by simp [py] at h
  | .tup ds, n + 1, h => by
    have h' : pys n ds = true := by simpa [py] using h
    have := pys_lay h'
    simp only [toPy, PyData.canLay0, PyData.depth]
    exact ⟨this.1, by omega⟩
  | .dct _ _, n, h => by cases n <;> simp [py] at h
  | .set _ _, n, h => by cases n <;> simp [py] at h
  | .scr _, n, h => by cases n <;> simp [py] at h
theorem pys_lay : ∀ {ds : List D} {n : Nat}, pys n ds = true → PyData.canLayAll0 (toPys ds) = true ∧ PyData.depthAll (toPys ds) ≤ n
  | [], n, _ => by simp [toPys, PyData.canLayAll0, PyData.depthAll]
  | d :: ds, n, h => by
    have h' : py n d = true ∧ pys n ds = true := by simpa [pys] using h
    have h1 := py_lay h'.1
    have h2 := pys_lay h'.2
    simp only [toPys, PyData.canLayAll0, PyData.depthAll, h1.1, h2.1, Bool.and_self, true_and]
    omega
end
theorem py_shaped {d : D} {n : Nat} (h : py n d = true) (hn : n ≤ 64) : SeqAt.shaped (toPy d) = true := by
  obtain ⟨h1, h2⟩ := py_lay h
  unfold SeqAt.shaped
  rw [h1, decide_eq_true (by omega)]; rfl
mutual
theorem py_dp {K : PySem.W.Frag} {G H : Hp} (s : Sm G H) : ∀ {d : D} {n : Nat} {v : V}, py n d = true → Rep G d v → Dp K H v (toPy d)
  | .non, _, _, _, r => by rw [Rep.non_iff.mp r]; exact .non
  | .bl b, _, _, _, r => by rw [Rep.bl_iff.mp r]; exact .bl b
  | .int i, _, _, _, r => by rw [Rep.int_iff.mp r]; exact .int i
  | .str x, _, _, _, r => by rw [Rep.str_iff.mp r]; exact .str x
  | .lst ds, 0, _, h, _ => by simp [py] at h
  | .lst ds, n + 1, _, h, r => by
    obtain ⟨a, vs, rfl, g, rs⟩ := Rep.lst_iff.mp r
    exact .lst (.of (s _ _ g)) (pys_dp s (by simpa [py] using h) rs)
  | .tup ds, 0, _, h, _ => by simp [py] at h
  | .tup ds, n + 1, _, h, r => by
    obtain ⟨a, vs, rfl, g, rs⟩ := Rep.tup_iff.mp r
    exact .tup (.of (s _ _ g)) (pys_dp s (by simpa [py] using h) rs)
  | .dct _ _, n, _, h, _ => by cases n <;> simp [py] at h
  | .set _ _, n, _, h, _ => by cases n <;> simp [py] at h
  | .scr _, n, _, h, _ => by cases n <;> simp [py] at h
theorem pys_dp {K : PySem.W.Frag} {G H : Hp} (s : Sm G H) : ∀ {ds : List D} {n : Nat} {vs : List V}, pys n ds = true → Reps G ds vs → DpAll K H vs (toPys ds)
  | [], _, _, _, r => by rw [r.inv0]; exact .nil
  | d :: ds, n, _, h, r => by
    obtain ⟨v, vr, rfl, r1, r2⟩ := r.inv
    have h' : py n d = true ∧ pys n ds = true := by simpa [pys] using h
    exact .cons (py_dp s h'.1 r1) (pys_dp s h'.2 r2)
end
/-- Python's == of plain data -/
def deqv (d e : D) : Bool := PyData.eqv (toPy d) (toPy e)

/-! ### operators -/
section
variable {X : Cx}
def gI (g : Int → Int → Int) (d e : D) : Option D := match d, e with
  | .int i, .int j => some (.int (g i j))
  | _, _ => none
def gB (g : Int → Int → Bool) (d e : D) : Option D := match d, e with
  | .int i, .int j => some (.bl (g i j))
  | _, _ => none
theorem gI_inv {g : Int → Int → Int} {d e c : D} (h : gI g d e = some c) : ∃ i j, d = .int i ∧ e = .int j ∧ c = .int (g i j) := by
  unfold gI at h; split at h
  · cases h; exact ⟨_, _, rfl, rfl, rfl⟩
  · cases h
theorem gB_inv {g : Int → Int → Bool} {d e c : D} (h : gB g d e = some c) : ∃ i j, d = .int i ∧ e = .int j ∧ c = .bl (g i j) := by
  unfold gB at h; split at h
  · cases h; exact ⟨_, _, rfl, rfl, rfl⟩
  · cases h
theorem ok_I0 {g : Int → Int → Int} : OkS (rI0 fun i j => .int (g i j)) (gI g) := fun G H d e c x y Q s rx ry h q => by
  obtain ⟨i, j, rfl, rfl, rfl⟩ := gI_inv h
  exact ⟨i, j, Rep.int_iff.mp rx, Rep.int_iff.mp ry, q _ _ _ (.refl s) .int⟩
theorem ok_B0 {g : Int → Int → Bool} : OkS (rI0 fun i j => .bl (g i j)) (gB g) := fun G H d e c x y Q s rx ry h q => by
  obtain ⟨i, j, rfl, rfl, rfl⟩ := gB_inv h
  exact ⟨i, j, Rep.int_iff.mp rx, Rep.int_iff.mp ry, q _ _ _ (.refl s) .bl⟩
/-- under a test of the two numbers -/
def gC (C : Int → Int → Bool) (g : Int → Int → Int) (d e : D) : Option D := match d, e with
  | .int i, .int j => if C i j then some (.int (g i j)) else none
  | _, _ => none
theorem ok_I {P : Int → Int → Prop} {C : Int → Int → Bool} {g : Int → Int → Int} (hC : ∀ i j, C i j = true → P i j) : OkS (rI P fun i j => .int (g i j)) (gC C g) := fun G H d e c x y Q s rx ry h q => by
  unfold gC at h; split at h
  · rename_i i j
    split at h
    · rename_i hc
      cases h
      exact ⟨i, j, Rep.int_iff.mp rx, Rep.int_iff.mp ry, hC i j hc, q _ _ _ (.refl s) .int⟩
    · cases h
  · cases h
def gSub := gI fun i j => i - j
def gLt := gB fun i j => decide (i < j)
def gLe := gB fun i j => decide (i ≤ j)
def gGt := gB fun i j => decide (j < i)
def gGe := gB fun i j => decide (j ≤ i)
def gFdiv := gC (fun _ j => decide (0 < j) && decide (j < 1073741824)) fun i j => i / j
def gMod := gC (fun _ j => decide (0 < j)) fun i j => i % j
def gPow := gC (fun i j => decide (0 ≤ j) && decide (j ≤ 1000000) && decide (i.natAbs < 2 ^ 64)) fun i j => i ^ j.toNat
def mulOk (i j : Int) : Bool := (decide (-(2 ^ 64) < i) && decide (i < 2 ^ 64)) || (decide (-(2 ^ 64) < j) && decide (j < 2 ^ 64))
theorem mulOk_ok {i j : Int} (h : mulOk i j = true) : CMul i j := by
  unfold mulOk at h
  simp only [Bool.or_eq_true, Bool.and_eq_true, decide_eq_true_eq] at h
  exact h
theorem ok_sub : OkS (rI0 fun i j => .int (i - j)) gSub := ok_I0
theorem ok_lt : OkS (rI0 fun i j => .bl (decide (i < j))) gLt := ok_B0
theorem ok_le : OkS (rI0 fun i j => .bl (decide (i ≤ j))) gLe := ok_B0
theorem ok_gt : OkS (rI0 fun i j => .bl (decide (j < i))) gGt := ok_B0
theorem ok_ge : OkS (rI0 fun i j => .bl (decide (j ≤ i))) gGe := ok_B0
theorem ok_fdiv : OkS (rI CDiv fun i j => .int (i / j)) gFdiv := ok_I fun i j h => by
  simp only [Bool.and_eq_true, decide_eq_true_eq] at h; exact h
theorem ok_mod : OkS (rI (fun _ j => 0 < j) fun i j => .int (i % j)) gMod := ok_I fun i j h => by
  simpa using h
theorem ok_pow : OkS (rI CPow fun i j => .int (i ^ j.toNat)) gPow := ok_I fun i j h => by
  simp only [Bool.and_eq_true, decide_eq_true_eq] at h
  exact ⟨h.1.1, h.1.2, h.2⟩
/-- a + b: numbers, lists, tuples -/
def gAdd (d e : D) : Option D := match d, e with
  | .int i, .int j => some (.int (i + j))
  | .lst ds, .lst es => if ds.length + es.length ≤ sizeLine then some (.lst (ds ++ es)) else none
  | _, _ => none
def rAddD : R2 := fun x y H Q => (rI0 fun i j => .int (i + j)) x y H Q ∨ rCat x y H Q
theorem op_addD : OpR X (binaryOp .Add) rAddD := op_add.or op_cat
theorem ok_add : OkS rAddD gAdd := fun G H d e c x y Q s rx ry h q => by
  unfold gAdd at h; split at h
  · cases h
    exact .inl ⟨_, _, Rep.int_iff.mp rx, Rep.int_iff.mp ry, q _ _ _ (.refl s) .int⟩
  · rename_i ds es
    split at h
    · rename_i hl
      cases h
      obtain ⟨a, vs, rfl, ga, r1⟩ := Rep.lst_iff.mp rx
      obtain ⟨b, us, rfl, gb, r2⟩ := Rep.lst_iff.mp ry
      refine .inr ⟨a, b, vs, us, rfl, rfl, s _ _ ga, s _ _ gb, by rw [← r1.length, ← r2.length]; exact hl, fun p np => ?_⟩
      have l := Lay.one (o := .lst (vs ++ us)) s np
      exact q _ _ _ l (Rep.lst_iff.mpr ⟨p, _, rfl, upd_same, (r1.append r2).mono l.g⟩)
    · cases h
  · cases h
/-- a * b: numbers; a list so often -/
def gMul (d e : D) : Option D := match d, e with
  | .int i, .int j => if mulOk i j then some (.int (i * j)) else none
  | .lst ds, .int j => if decide (j < 2 ^ 63) && decide (-(2 ^ 63) ≤ j) && decide (ds.length * j.toNat ≤ sizeLine) then some (.lst (List.replicate j.toNat ds).flatten) else none
  | _, _ => none
def rMulD : R2 := fun x y H Q => (rI CMul fun i j => .int (i * j)) x y H Q ∨ rRep x y H Q
theorem op_mulD : OpR X (binaryOp .Mult) rMulD := op_mul.or op_rep
theorem Reps.rep {G : Hp} {ds : List D} {vs : List V} (h : Reps G ds vs) : ∀ n : Nat, Reps G (List.replicate n ds).flatten (List.replicate n vs).flatten
  | 0 => by simpa using Reps.nil
  | n + 1 => by
    rw [List.replicate_succ, List.replicate_succ, List.flatten_cons, List.flatten_cons]
    exact h.append (Reps.rep h n)
theorem ok_mul : OkS rMulD gMul := fun G H d e c x y Q s rx ry h q => by
  unfold gMul at h; split at h
  · split at h
    · rename_i hm
      cases h
      exact .inl ⟨_, _, Rep.int_iff.mp rx, Rep.int_iff.mp ry, mulOk_ok hm, q _ _ _ (.refl s) .int⟩
    · cases h
  · rename_i ds j
    split at h
    · rename_i hl
      cases h
      simp only [Bool.and_eq_true, decide_eq_true_eq] at hl
      obtain ⟨a, vs, rfl, ga, r1⟩ := Rep.lst_iff.mp rx
      refine .inr ⟨a, j, vs, rfl, Rep.int_iff.mp ry, s _ _ ga, hl.1.2, hl.1.1, by rw [← r1.length]; exact hl.2, fun p np => ?_⟩
      have l := Lay.one (o := .lst (List.replicate j.toNat vs).flatten) s np
      exact q _ _ _ l (Rep.lst_iff.mpr ⟨p, _, rfl, upd_same, (r1.rep _).mono l.g⟩)
    · cases h
  · cases h
def eNeg (f : Ex) : Ex := fun ρ => match f ρ with
  | some (.int i, ρ1) => some (.int (-i), ρ1)
  | _ => none
theorem x_neg {a : Expr} {pos : Pos} {f : Ex} (ha : PX X a f) : PX X (.UnaryOp .USub a pos) (eNeg f) := L2.PE.weak (pe_un un_neg ha) fun σ H Q ⟨B, Bg, G, ρ, k, ρ', S, hf, q⟩ => by
  unfold eNeg at hf
  split at hf
  · rename_i i ρ1 h1
    simp only [Option.some.injEq, Prod.mk.injEq] at hf
    obtain ⟨rfl, rfl⟩ := hf
    exact ⟨B, Bg, G, ρ, .int i, ρ1, S, h1, fun v G1 H1 S1 T1 r1 => ⟨i, Rep.int_iff.mp r1, q _ G1 H1 S1 T1 .int⟩⟩
  · cases hf

/-! ### equality -/
def gEq (d e : D) : Option D := if py 40 d && py 40 e then some (.bl (deqv d e)) else none
def gNe (d e : D) : Option D := if py 40 d && py 40 e then some (.bl (!deqv d e)) else none
theorem ok_eq {K : PySem.W.Frag} : OkS (rEqD K) gEq := fun G H d e c x y Q s rx ry h q => by
  unfold gEq at h; split at h
  · rename_i hp
    simp only [Bool.and_eq_true] at hp
    cases h
    exact ⟨toPy d, toPy e, py_dp s hp.1 rx, py_dp s hp.2 ry, py_shaped hp.1 (by decide), py_shaped hp.2 (by decide), q _ _ _ (.refl s) .bl⟩
  · cases h
theorem ok_ne {K : PySem.W.Frag} : OkS (rNeD K) gNe := fun G H d e c x y Q s rx ry h q => by
  unfold gNe at h; split at h
  · rename_i hp
    simp only [Bool.and_eq_true] at hp
    cases h
    exact ⟨toPy d, toPy e, py_dp s hp.1 rx, py_dp s hp.2 ry, py_shaped hp.1 (by decide), py_shaped hp.2 (by decide), q _ _ _ (.refl s) .bl⟩
  · cases h
/-- is None; is True, is False -/
def gIs (d e : D) : Option D := match e with
  | .non => (match d with | .non => some (.bl true) | .scr _ => none | _ => some (.bl false))
  | .bl b => (match d with | .bl a => some (.bl (a == b)) | _ => none)
  | _ => none
def gIsNot (d e : D) : Option D := match e with
  | .non => (match d with | .non => some (.bl false) | .scr _ => none | _ => some (.bl true))
  | _ => none
def rIsD : R2 := fun x y H Q => (y = .non ∧ Q (.bl (decide (x = .non))) H) ∨ ∃ a b, x = .bl a ∧ y = .bl b ∧ Q (.bl (decide (a = b))) H
theorem op_isD : OpR X (compareOp .Is) rIsD := op_isN.or op_is_bl
theorem Rep.not_non {G : Hp} {d : D} {v : V} (r : Rep G d v) (h : d ≠ .non) : v ≠ .non := by
  cases d with
  | non => exact absurd rfl h
  | bl b => rw [Rep.bl_iff.mp r]; exact fun z => nomatch z
  | int b => rw [Rep.int_iff.mp r]; exact fun z => nomatch z
  | str b => rw [Rep.str_iff.mp r]; exact fun z => nomatch z
  | tup ds => obtain ⟨a, vs, rfl, _⟩ := Rep.tup_iff.mp r; exact fun z => nomatch z
  | lst ds => obtain ⟨a, vs, rfl, _⟩ := Rep.lst_iff.mp r; exact fun z => nomatch z
  | dct ks ds => obtain ⟨a, vs, rfl, _⟩ := Rep.dct_iff.mp r; exact fun z => nomatch z
  | set w xs => obtain ⟨a, rfl, _⟩ := Rep.set_iff.mp r; exact fun z => nomatch z
  | scr xs => obtain ⟨a, rfl, _⟩ := Rep.scr_iff.mp r; exact fun z => nomatch z
theorem ok_is : OkS rIsD gIs := fun G H d e c x y Q s rx ry h q => by
  unfold gIs at h
  cases e <;> simp only at h
  case non =>
    refine .inl ⟨Rep.non_iff.mp ry, ?_⟩
    by_cases hd : d = .non
    · subst hd
      rw [Rep.non_iff.mp rx]
      cases h
      exact q _ _ _ (.refl s) (by simp [Rep.bl_iff])
    · have hx := rx.not_non hd
      rw [decide_eq_false hx]
      have hc : c = .bl false := by
        cases d <;> simp_all
      subst hc
      exact q _ _ _ (.refl s) .bl
  case bl b =>
    cases d <;> simp only at h
    case bl a =>
      cases h
      refine .inr ⟨a, b, Rep.bl_iff.mp rx, Rep.bl_iff.mp ry, q _ _ _ (.refl s) ?_⟩
      have : decide (a = b) = (a == b) := by cases a <;> cases b <;> rfl
      rw [this]; exact .bl
    all_goals cases h
  all_goals cases h
theorem ok_isNot : OkS (fun x y H Q => y = .non ∧ Q (.bl (!decide (x = .non))) H) gIsNot := fun G H d e c x y Q s rx ry h q => by
  unfold gIsNot at h
  cases e <;> simp only at h
  case non =>
    refine ⟨Rep.non_iff.mp ry, ?_⟩
    by_cases hd : d = .non
    · subst hd
      rw [Rep.non_iff.mp rx]
      cases h
      exact q _ _ _ (.refl s) (by simp [Rep.bl_iff])
    · have hx := rx.not_non hd
      rw [decide_eq_false hx]
      have hc : c = .bl true := by
        cases d <;> simp_all
      subst hc
      exact q _ _ _ (.refl s) .bl
  all_goals cases h

/-! ### dicts -/
def dget : List Key → List D → Key → Option D
  | k :: ks, d :: ds, x => if k = x then some d else dget ks ds x
  | _, _, _ => none
def dput : List Key → List D → Key → D → List Key × List D
  | k :: ks, d :: ds, x, e => if k = x then (k :: ks, e :: ds) else ((k :: (dput ks ds x e).1), (d :: (dput ks ds x e).2))
  | _, _, x, e => ([x], [e])
theorem dget_ok {G : Hp} {x : Key} : ∀ {ks : List Key} {ds : List D} {kvs : List (Key × V)}, kvs.map (·.1) = ks → Reps G ds (kvs.map (·.2)) →
    (dget ks ds x = none ∧ valV kvs x = none) ∨ ∃ d v, dget ks ds x = some d ∧ valV kvs x = some v ∧ Rep G d v
  | [], ds, kvs, hk, hd => by
    cases kvs with
    | nil => rw [hd.length |> List.eq_nil_of_length_eq_zero]; exact .inl ⟨by simp [dget], rfl⟩
    | cons => simp at hk
  | k :: ks, ds, kvs, hk, hd => by
    cases kvs with
    | nil => simp at hk
    | cons p r =>
      simp only [List.map_cons, List.cons.injEq] at hk
      obtain ⟨rfl, hk⟩ := hk
      cases ds with
      | nil => have := hd.length; simp at this
      | cons d ds =>
        obtain ⟨v, vr, e, rd, rr⟩ := hd.inv
        simp only [List.map_cons, List.cons.injEq] at e
        obtain ⟨rfl, rfl⟩ := e
        by_cases hx : p.1 = x
        · exact .inr ⟨d, p.2, by simp [dget, hx], valV_pos hx, rd⟩
        · rw [valV_neg hx]
          simp only [dget, if_neg hx]
          exact dget_ok hk rr
theorem dput_ok {G : Hp} {x : Key} {e : D} {u : V} (re : Rep G e u) : ∀ {ks : List Key} {ds : List D} {kvs : List (Key × V)}, kvs.map (·.1) = ks → Reps G ds (kvs.map (·.2)) → ks.Nodup →
    (putK kvs x u).map (·.1) = (dput ks ds x e).1 ∧ Reps G (dput ks ds x e).2 ((putK kvs x u).map (·.2))
  | [], ds, kvs, hk, hd, _ => by
    cases kvs with
    | nil =>
      have : ds = [] := hd.length |> List.eq_nil_of_length_eq_zero
      subst this
      simp only [dput, putK, List.any_nil, Bool.false_eq_true, if_false, List.nil_append, List.map_cons, List.map_nil, true_and]
      exact .cons re .nil
    | cons => simp at hk
  | k :: ks, ds, kvs, hk, hd, nd => by
    cases kvs with
    | nil => simp at hk
    | cons p r =>
      simp only [List.map_cons, List.cons.injEq] at hk
      obtain ⟨rfl, hk⟩ := hk
      obtain ⟨hn, nd⟩ := List.nodup_cons.mp nd
      cases ds with
      | nil => have := hd.length; simp at this
      | cons d ds =>
        obtain ⟨v, vr, e', rd, rr⟩ := hd.inv
        simp only [List.map_cons, List.cons.injEq] at e'
        obtain ⟨rfl, rfl⟩ := e'
        by_cases hx : p.1 = x
        · have hr : r.map (fun kv => if kv.1 = x then (kv.1, u) else kv) = r := by
            conv => rhs; rw [← List.map_id r]
            refine List.map_congr_left fun kv hkv => ?_
            have : kv.1 ≠ x := fun z => hn (by rw [← hk, hx, ← z]; exact List.mem_map_of_mem hkv)
            rw [if_neg this]; rfl
          simp only [putK, List.any_cons, hx, decide_true, Bool.true_or, if_true, List.map_cons, dput]
          rw [hr]
          simp only [hk, true_and]
          exact .cons re rr
        · obtain ⟨h1, h2⟩ := dput_ok (x := x) re hk rr nd
          have e3 : putK (p :: r) x u = p :: putK r x u := by
            unfold putK
            simp only [List.any_cons, hx, decide_false, Bool.false_or, List.map_cons, if_false]
            split <;> simp
          rw [e3]
          simp only [List.map_cons, dput, if_neg hx, h1, true_and]
          exact .cons rd h2
def keyD : D → Option Key
  | .int i => some (.inl i)
  | .str x => some (.inr x)
  | _ => none
theorem keyD_ok {G : Hp} {d : D} {v : V} {k : Key} (r : Rep G d v) (h : keyD d = some k) : v = kV k := by
  cases d <;> simp only [keyD] at h
  case int i => cases h; exact Rep.int_iff.mp r
  case str i => cases h; exact Rep.str_iff.mp r
  all_goals cases h

/-! ### x in y -/
def memD (d e : D) : Option Bool := match e with
  | .lst es => if py 40 d && pys 40 es then some (es.any fun z => deqv z d) else none
  | .dct ks ds => (match keyD d with
    | some k => some (dget ks ds k).isSome
    | none => none)
  | .set _ xs => (match d with
    | .int i => some (xs.contains i)
    | _ => none)
  | _ => none
end
end DL

/-! DL3: membership, subscripts, slices, displays, calls. -/
namespace DL
open PySem PySem.Spec PyProof.Rows L2
section
variable {X : Cx} {e a b c : Expr} {pos : Pos}

/-! ### in -/
def gIn (d e : D) : Option D := (memD d e).map D.bl
def gNotIn (d e : D) : Option D := (memD d e).map fun b => D.bl (!b)
def rDI (neg : Bool) : R2 := fun x y H Q => ∃ a o, y = .ref a ∧ DGet H a x o ∧ Q (.bl (if neg then !o.isSome else o.isSome)) H
theorem op_inK (hu : X.A.units + 1 < cLine) : OpR X (compareOp .In) (rDI false) := fun pins s σ H x y v u Q I rx ry ⟨a, o, ey, g, q⟩ => by
  subst ey; cases ry
  exact d_in hu I g rx fun s' I' => ⟨.bl o.isSome, H, I', rfl, q⟩
theorem op_notInK (hu : X.A.units + 1 < cLine) : OpR X (compareOp .NotIn) (rDI true) := fun pins s σ H x y v u Q I rx ry ⟨a, o, ey, g, q⟩ => by
  subst ey; cases ry
  exact d_notIn hu I g rx fun s' I' => ⟨.bl (!o.isSome), H, I', rfl, q⟩
def rMem (K : PySem.W.Frag) (w : World) : R2 := fun x y H Q => (rInD K x y H Q ∨ rDI false x y H Q) ∨ rSIn w x y H Q
def rNotMem (K : PySem.W.Frag) (w : World) : R2 := fun x y H Q => (rNotInD K x y H Q ∨ rDI true x y H Q) ∨ rSNotIn w x y H Q
theorem op_mem (hu : X.A.units + 65 < cLine) : OpR X (compareOp .In) (rMem X.K X.w) := ((op_inD hu).or (op_inK (by omega))).or or_sin
theorem op_notMem (hu : X.A.units + 65 < cLine) : OpR X (compareOp .NotIn) (rNotMem X.K X.w) := ((op_notInD hu).or (op_notInK (by omega))).or or_snotin
theorem toPys_any {d : D} : ∀ es : List D, (toPys es).any (fun z => PyData.eqv z (toPy d)) = es.any fun z => deqv z d
  | [] => by simp [toPys]
  | e :: es => by simp [toPys, deqv, toPys_any es]
/-- sets are made in the world w of the run -/
def setsIn (w : World) : D → Prop
  | .set w' _ => w' = w
  | _ => True
theorem mem_cases {K : PySem.W.Frag} {w : World} {G H : Hp} {d e : D} {x y : V} {k : Bool} (s : Sm G H) (rx : Rep G d x) (ry : Rep G e y) (h : memD d e = some k) :
    (∃ ds, Dp K H x (toPy d) ∧ Dp K H y (.list ds) ∧ SeqAt.shaped (toPy d) = true ∧ SeqAt.shaped (.list ds) = true ∧ (ds.any fun z => PyData.eqv z (toPy d)) = k) ∨
    (∃ a o, y = .ref a ∧ DGet H a x o ∧ o.isSome = k) ∨ ∃ i a w' xs, x = V.int i ∧ y = V.ref a ∧ e = .set w' xs ∧ H a = some (SetO w' a (fun j => xs.contains j) xs.length) ∧ xs.contains i = k := by
  unfold memD at h
  cases e <;> simp only at h
  case lst es =>
    split at h
    · rename_i hp
      simp only [Bool.and_eq_true] at hp
      cases h
      have hl : py 41 (.lst es) = true := by simpa [py] using hp.2
      exact .inl ⟨toPys es, py_dp s hp.1 rx, py_dp s hl ry, py_shaped hp.1 (by decide), py_shaped hl (by decide), toPys_any es⟩
    · cases h
  case dct ks ds =>
    obtain ⟨a, kvs, rfl, ga, hk, hd⟩ := Rep.dct_iff.mp ry
    split at h
    · rename_i k' hk'
      cases h
      rw [keyD_ok rx hk']
      refine .inr (.inl ⟨a, _, rfl, DGet.k (s _ _ ga), ?_⟩)
      rcases dget_ok (x := k') hk hd with ⟨h1, h2⟩ | ⟨d', v', h1, h2, _⟩
      · rw [h1, h2]; rfl
      · rw [h1, h2]; rfl
    · cases h
  case set w' xs =>
    obtain ⟨a, rfl, nd, ga⟩ := Rep.set_iff.mp ry
    cases d <;> simp only at h
    case int i =>
      cases h
      exact .inr (.inr ⟨i, a, w', xs, Rep.int_iff.mp rx, rfl, rfl, s _ _ ga, rfl⟩)
    all_goals cases h
  all_goals cases h
/-- in: the right side is a list or a dict, or a set of this world -/
def gInW (w : World) (d e : D) : Option D := match e with
  | .set w' xs => none
  | _ => gIn d e
theorem ok_in {K : PySem.W.Frag} {w : World} : OkS (rMem K w) (fun d e => match e with | .set _ _ => none | _ => gIn d e) := fun G H d e c x y Q s rx ry h q => by
  have h2 : gIn d e = some c := by
    cases e <;> first
      | exact h
      | cases h
  unfold gIn at h2
  cases hm : memD d e with
  | none => rw [hm] at h2; cases h2
  | some k =>
    rw [hm] at h2; cases h2
    rcases mem_cases (K := K) (w := w) s rx ry hm with ⟨ds, h1, h2, h3, h4, h5⟩ | ⟨a, o, h1, h2, h3⟩ | ⟨i, a, w', xs, _, _, he, _⟩
    · exact .inl (.inl ⟨_, ds, h1, h2, h3, h4, by rw [h5]; exact q _ _ _ (.refl s) .bl⟩)
    · exact .inl (.inr ⟨a, o, h1, h2, by simp only [Bool.false_eq_true, if_false, h3]; exact q _ _ _ (.refl s) .bl⟩)
    · subst he; cases h
theorem ok_notIn {K : PySem.W.Frag} {w : World} : OkS (rNotMem K w) (fun d e => match e with | .set _ _ => none | _ => gNotIn d e) := fun G H d e c x y Q s rx ry h q => by
  have h2 : gNotIn d e = some c := by
    cases e <;> first
      | exact h
      | cases h
  unfold gNotIn at h2
  cases hm : memD d e with
  | none => rw [hm] at h2; cases h2
  | some k =>
    rw [hm] at h2; cases h2
    rcases mem_cases (K := K) (w := w) s rx ry hm with ⟨ds, h1, h2, h3, h4, h5⟩ | ⟨a, o, h1, h2, h3⟩ | ⟨i, a, w', xs, _, _, he, _⟩
    · exact .inl (.inl ⟨_, ds, h1, h2, h3, h4, by rw [h5]; exact q _ _ _ (.refl s) .bl⟩)
    · exact .inl (.inr ⟨a, o, h1, h2, by simp only [if_true, h3]; exact q _ _ _ (.refl s) .bl⟩)
    · subst he; cases h
/-- .. a set -/
def gInS (w : World) (d e : D) : Option D := match e with
  | .set _ xs => (match d with | .int i => some (.bl (xs.contains i)) | _ => none)
  | _ => none

/-! ### arguments -/
def aNil : Ax := fun ρ => some ([], ρ)
def aCons (f : Ex) (g : Ax) : Ax := fun ρ => match f ρ with
  | some (d, ρ1) => (match g ρ1 with
    | some (ds, ρ2) => some (d :: ds, ρ2)
    | none => none)
  | none => none
theorem a_nil : QA X [] aNil := L2.PA.weak pa_nil fun σ H Q ⟨B, Bg, G, ρ, ds, ρ', S, hf, q⟩ => by
  simp only [aNil, Option.some.injEq, Prod.mk.injEq] at hf
  obtain ⟨rfl, rfl⟩ := hf
  exact q [] G H S .refl .nil
theorem a_cons {es : List Expr} {f : Ex} {g : Ax} (ha : PX X e f) (hr : QA X es g) (hs : starEach (e :: es) X.env = (false, eval e X.env) :: starEach es X.env := by rfl) : QA X (e :: es) (aCons f g) :=
  L2.PA.weak (pa_cons ha hr hs) fun σ H Q ⟨B, Bg, G, ρ, ds, ρ', S, hf, q⟩ => by
    unfold aCons at hf
    split at hf
    · rename_i d ρ1 h1
      split at hf
      · rename_i ds' ρ2 h2
        simp only [Option.some.injEq, Prod.mk.injEq] at hf
        obtain ⟨rfl, rfl⟩ := hf
        refine ⟨B, Bg, G, ρ, d, ρ1, S, h1, fun v G1 H1 S1 T1 r1 => ?_⟩
        exact ⟨B, Bg, G1, ρ1, ds', ρ2, S1, h2, fun vs G2 H2 S2 T2 r2 => q _ G2 H2 S2 (T1.trans T2) (.cons (r1.mono T2.g) r2)⟩
      · cases hf
    · cases hf

/-! ### displays -/
def eTup (f : Ax) : Ex := fun ρ => match f ρ with
  | some (ds, ρ1) => if ds.length ≤ 1000 then some (.tup ds, ρ1) else none
  | none => none
def eLst (f : Ax) : Ex := fun ρ => match f ρ with
  | some (ds, ρ1) => if ds.length ≤ 1000 then some (.lst ds, ρ1) else none
  | none => none
theorem k1000 {n : Nat} (h : n ≤ 1000) : n ≤ sizeLine := Nat.le_trans h (by decide)
theorem x_tup {es : List Expr} {x1} {f : Ax} (h : QA X es f) : PX X (.Tuple es x1 pos) (eTup f) := L2.PE.weak (pe_tup h) fun σ H Q ⟨B, Bg, G, ρ, d, ρ', S, hf, q⟩ => by
  unfold eTup at hf
  split at hf
  · rename_i ds ρ1 h1
    split at hf
    · rename_i hl
      simp only [Option.some.injEq, Prod.mk.injEq] at hf
      obtain ⟨rfl, rfl⟩ := hf
      refine ⟨B, Bg, G, ρ, ds, ρ1, S, h1, fun vs G1 H1 S1 T1 r1 => ⟨by rw [← r1.length]; exact k1000 hl, fun p np => ?_⟩⟩
      have l := Lay.one (o := .tup vs) S1.sub np
      exact q _ _ _ (S1.lay l) (T1.trans (.lay l)) (Rep.tup_iff.mpr ⟨p, _, rfl, upd_same, r1.mono l.g⟩)
    · cases hf
  · cases hf
theorem none_of_sm {H H' : Hp} (s : Sm H H') {p : Addr} (h : H' p = none) : H p = none := sub_none s h
/-- what a new thing of one's own holds -/
def Holds (G : Hp) (a : Addr) (d : D) (o : HO) : Prop := match d with
  | .lst ds => ∃ vs, o = .lst vs ∧ Reps G ds vs
  | .dct ks ds => ∃ kvs, o = .dK kvs ∧ kvs.map (·.1) = ks ∧ Reps G ds (kvs.map (·.2))
  | .set w xs => xs.Nodup ∧ o = SetO w a (fun i => xs.contains i) xs.length
  | _ => False
theorem Own.mk' {B G H : Hp} {d : D} {a : Addr} {o : HO} (b : B a = none) (g : G a = none) (h : H a = some o) (c : Holds G a d o) : Own B G H d (.ref a) := by
  refine ⟨a, rfl, b, g, ?_⟩
  cases d <;> simp only [Holds] at c ⊢
  · obtain ⟨vs, rfl, r⟩ := c; exact ⟨vs, h, r⟩
  · obtain ⟨vs, rfl, r⟩ := c; exact ⟨vs, h, r⟩
  · obtain ⟨n, rfl⟩ := c; exact ⟨n, h⟩
/-- a new thing of one's own is laid -/
theorem own_new {B Bg G H : Hp} {ρ : Env} {σ : Ss} {d : D} {p : Addr} {o : HO} (S : Sta B Bg G H ρ σ) (np : H p = none) (c : Holds G p d o) :
    Sta B Bg G (upd H p o) ρ σ ∧ Stp σ G H ρ G (upd H p o) ρ ∧ Own B G (upd H p o) d (.ref p) :=
  ⟨S.grow (fun _ _ z => z) (sm_upd np) (fun b u z => sm_upd np b u (S.sub b u z)) (fun _ e n => absurd e n), .same (fun _ _ z => z) (sm_upd np) (fun _ e n => absurd e n),
    .mk' (none_of_sm S.old np) (sub_none S.sub np) upd_same c⟩
theorem stp_none {σ : Ss} {G H G' H' : Hp} {ρ ρ' : Env} (T : Stp σ G H ρ G' H' ρ') {p : Addr} (h : H' p = none) : H p = none := by
  cases q : H p with
  | none => rfl
  | some o => exact absurd h (T.dom p (by rw [q]; simp))
theorem n_lst {es : List Expr} {f : Ax} (h : QA X es f) : PN X (.List es pos) (eLst f) := L2.PE.weak (pe_lst h) fun σ H Q ⟨B, Bg, G, ρ, d, ρ', S, hf, q⟩ => by
  unfold eLst at hf
  split at hf
  · rename_i ds ρ1 h1
    split at hf
    · rename_i hl
      simp only [Option.some.injEq, Prod.mk.injEq] at hf
      obtain ⟨rfl, rfl⟩ := hf
      refine ⟨B, Bg, G, ρ, ds, ρ1, S, h1, fun vs G1 H1 S1 T1 r1 => ⟨by rw [← r1.length]; exact k1000 hl, fun p np => ?_⟩⟩
      obtain ⟨S2, T2, o2⟩ := own_new (d := .lst ds) (o := .lst vs) S1 np ⟨vs, rfl, r1⟩
      exact q _ _ _ S2 (T1.trans T2) o2 fun a ea => by cases ea; exact stp_none T1 np
    · cases hf
  · cases hf
theorem x_lst {es : List Expr} {f : Ax} (h : QA X es f) : PX X (.List es pos) (eLst f) := (n_lst h).px
theorem n_dct0 : PN X (.Dict [] [] pos) (eC (.dct [] [])) := L2.PE.weak pe_dnewK fun σ H Q ⟨B, Bg, G, ρ, d, ρ', S, hf, q⟩ p np => by
  simp only [eC, Option.some.injEq, Prod.mk.injEq] at hf
  obtain ⟨rfl, rfl⟩ := hf
  obtain ⟨S2, T2, o2⟩ := own_new (d := .dct [] []) (o := .dK []) S np ⟨[], rfl, rfl, .nil⟩
  exact q _ _ _ S2 T2 o2 fun a ea => by cases ea; exact np

/-! ### o[i] -/
def ixD (n : Nat) (i : Int) : Option Nat := if 0 ≤ i then (if i < n then some i.toNat else none) else if -(n : Int) ≤ i then some (i + n).toNat else none
def gIdx (d e : D) : Option D := match d with
  | .lst ds => (match e with | .int i => (ixD ds.length i).bind fun j => ds[j]? | _ => none)
  | .tup ds => (match e with | .int i => (ixD ds.length i).bind fun j => ds[j]? | _ => none)
  | .dct ks ds => (keyD e).bind (dget ks ds)
  | _ => none
def rDGetD : R2 := fun x y H Q => ∃ a v, x = .ref a ∧ DGet H a y (some v) ∧ Q v H
theorem ixD_eq (n : Nat) (i : Int) : ixD n i = ixN n i := rfl
theorem idx_seq {G : Hp} {ds : List D} {vs : List V} {i : Int} {c : D} (r : Reps G ds vs) (h : ((ixD ds.length i).bind fun j => ds[j]?) = some c) : ∃ v, atI vs i = some v ∧ Rep G c v := by
  cases hj : ixD ds.length i with
  | none => rw [hj] at h; cases h
  | some j =>
    rw [hj] at h
    obtain ⟨v, h1, h2⟩ := r.get (i := j) h
    refine ⟨v, ?_, h2⟩
    unfold atI
    rw [← r.length, ← ixD_eq, hj]
    exact h1
theorem idx_dct {G H : Hp} {ks : List Key} {ds : List D} {e c : D} {x y : V} {Q : VK} (s : Sm G H) (rx : Rep G (.dct ks ds) x) (ry : Rep G e y) (h : gIdx (.dct ks ds) e = some c) (q : ∀ v, Rep G c v → Q v H) : rDGetD x y H Q := by
  obtain ⟨a, kvs, rfl, ga, hk, hd⟩ := Rep.dct_iff.mp rx
  unfold gIdx at h
  cases hk' : keyD e with
  | none => rw [hk'] at h; cases h
  | some k =>
    rw [hk'] at h
    have h' : dget ks ds k = some c := h
    rcases dget_ok (x := k) hk hd with ⟨h1, _⟩ | ⟨d', v', h1, h2, h3⟩
    · rw [h1] at h'; cases h'
    · rw [h1] at h'; cases h'
      refine ⟨a, v', rfl, ?_, q v' h3⟩
      rw [keyD_ok ry hk', ← h2]
      exact DGet.k (s _ _ ga)
theorem idx_list {K : PySem.W.Frag} {G H : Hp} {ds : List D} {e c : D} {x y : V} {Q : VK} (s : Sm G H) (rx : Rep G (.lst ds) x) (ry : Rep G e y) (h : gIdx (.lst ds) e = some c) (q : ∀ v, Rep G c v → Q v H) : rIx K x y H Q := by
  unfold gIdx at h
  cases e <;> simp only at h
  case int i =>
    obtain ⟨a, vs, rfl, ga, r⟩ := Rep.lst_iff.mp rx
    obtain ⟨v, h1, h2⟩ := idx_seq r h
    exact .inl ⟨a, vs, i, v, rfl, Rep.int_iff.mp ry, .of (s _ _ ga), h1, q v h2⟩
  all_goals cases h
theorem idx_tup {K : PySem.W.Frag} {G H : Hp} {ds : List D} {e c : D} {x y : V} {Q : VK} (s : Sm G H) (rx : Rep G (.tup ds) x) (ry : Rep G e y) (h : gIdx (.tup ds) e = some c) (q : ∀ v, Rep G c v → Q v H) : rIx K x y H Q := by
  unfold gIdx at h
  cases e <;> simp only at h
  case int i =>
    obtain ⟨a, vs, rfl, ga, r⟩ := Rep.tup_iff.mp rx
    obtain ⟨v, h1, h2⟩ := idx_seq r h
    exact .inr (.inl ⟨a, vs, i, v, rfl, Rep.int_iff.mp ry, .of (s _ _ ga), h1, q v h2⟩)
  all_goals cases h
theorem x_idx {fa fb : Ex} (hu : X.A.units + 1 < cLine) (ha : PX X a fa) (hb : PX X b fb) (hs : PlainIx b) : PX X (.Subscript a b pos) (eBin gIdx fa fb) :=
  L2.PE.weak ((pe_ix ix_seq ha hb hs).orE (pe_dget hu ha hb hs)) fun σ H Q ⟨B, Bg, G, ρ, c, ρ', S, hf, q⟩ => by
    obtain ⟨d, ρ1, e, h1, h2, h3⟩ := eBin_inv hf
    cases d with
    | lst ds => exact .inl ⟨B, Bg, G, ρ, _, ρ1, S, h1, fun x G1 H1 S1 T1 r1 => ⟨B, Bg, G1, ρ1, e, ρ', S1, h2, fun y G2 H2 S2 T2 r2 =>
        idx_list S2.sub (r1.mono T2.g) r2 h3 fun v rv => q v G2 H2 S2 (T1.trans T2) rv⟩⟩
    | tup ds => exact .inl ⟨B, Bg, G, ρ, _, ρ1, S, h1, fun x G1 H1 S1 T1 r1 => ⟨B, Bg, G1, ρ1, e, ρ', S1, h2, fun y G2 H2 S2 T2 r2 =>
        idx_tup S2.sub (r1.mono T2.g) r2 h3 fun v rv => q v G2 H2 S2 (T1.trans T2) rv⟩⟩
    | dct ks ds => exact .inr ⟨B, Bg, G, ρ, _, ρ1, S, h1, fun x G1 H1 S1 T1 r1 => ⟨B, Bg, G1, ρ1, e, ρ', S1, h2, fun y G2 H2 S2 T2 r2 =>
        idx_dct S2.sub (r1.mono T2.g) r2 h3 fun v rv => q v G2 H2 S2 (T1.trans T2) rv⟩⟩
    | _ => simp [gIdx] at h3
/-- x[i], x a slot: of one's own or not -/
def eIdxV (i : Nat) (fb : Ex) : Ex := fun ρ => match fb ρ with
  | some (e, ρ1) => (match ρ[i]? with
    | some (.fz d) => (match gIdx d e with
      | some c => some (c, ρ1)
      | none => none)
    | some (.ow _) => (match ρ1[i]? with
      | some (.ow d) => (match gIdx d e with
        | some c => some (c, ρ1)
        | none => none)
      | _ => none)
    | _ => none)
  | none => none
theorem own_idx {K : PySem.W.Frag} {B G H : Hp} {d e c : D} {x y : V} {Q : VK} (o : Own B G H d x) (ry : Rep G e y) (h : gIdx d e = some c) (q : ∀ v, Rep G c v → Q v H) :
    (rIx K x y H Q ∧ ∀ ks ds, d ≠ .dct ks ds) ∨ (rDGetD x y H Q ∧ ∃ ks ds, d = .dct ks ds) := by
  obtain ⟨a, rfl, _, _, m⟩ := o
  cases d <;> simp only at m
  case lst ds =>
    obtain ⟨vs, ha, r⟩ := m
    unfold gIdx at h
    cases e <;> simp only at h
    case int i =>
      obtain ⟨v, h1, h2⟩ := idx_seq r h
      exact .inl ⟨.inl ⟨a, vs, i, v, rfl, Rep.int_iff.mp ry, .of ha, h1, q v h2⟩, fun _ _ z => nomatch z⟩
    all_goals cases h
  case dct ks ds =>
    obtain ⟨kvs, ha, hk, hd⟩ := m
    unfold gIdx at h
    cases hk' : keyD e with
    | none => rw [hk'] at h; cases h
    | some k =>
      rw [hk'] at h
      have h' : dget ks ds k = some c := h
      rcases dget_ok (x := k) hk hd with ⟨h1, _⟩ | ⟨d', v', h1, h2, h3⟩
      · rw [h1] at h'; cases h'
      · rw [h1] at h'; cases h'
        refine .inr ⟨⟨a, v', rfl, ?_, q v' h3⟩, ks, ds, rfl⟩
        rw [keyD_ok ry hk', ← h2]
        exact DGet.k ha
  case set w xs => simp [gIdx] at h
theorem x_idxV (i : Nat) {x : Str} {fb : Ex} {p1 : Pos} (hu : X.A.units + 1 < cLine) (hb : PX X b fb) (hs : PlainIx b) (hN : X.N[i]? = some x := by rfl)
    (hv : Vis X.env.scope x := by first | exact Or.inl rfl | exact Or.inr (Or.inl rfl) | exact Or.inr (Or.inr rfl)) (hd : (x == ("__debug__" : Str)) = false := by decide) (hcd : (x == ("__classdict__" : Str)) = false := by decide) :
    PX X (.Subscript (.Name x p1) b pos) (eIdxV i fb) :=
  L2.PE.weak ((pe_ix ix_seq (pv i hN hv hd hcd) hb hs).orE (pe_dget hu (pv i hN hv hd hcd) hb hs)) fun σ H Q ⟨B, Bg, G, ρ, c, ρ', S, hf, q⟩ => by
    unfold eIdxV at hf
    split at hf
    · rename_i e ρ1 h1
      split at hf
      · rename_i d h0
        obtain ⟨o, e1, v, e2, r⟩ := S.sl i _ h0
        split at hf
        · rename_i c' h3
          simp only [Option.some.injEq, Prod.mk.injEq] at hf
          obtain ⟨rfl, rfl⟩ := hf
          cases d with
          | lst ds => exact .inl ⟨v, by rw [e1, e2], B, Bg, G, ρ, e, ρ1, S, h1, fun y G2 H2 S2 T2 r2 => idx_list S2.sub (r.mono T2.g) r2 h3 fun v rv => q v G2 H2 S2 T2 rv⟩
          | tup ds => exact .inl ⟨v, by rw [e1, e2], B, Bg, G, ρ, e, ρ1, S, h1, fun y G2 H2 S2 T2 r2 => idx_tup S2.sub (r.mono T2.g) r2 h3 fun v rv => q v G2 H2 S2 T2 rv⟩
          | dct ks ds => exact .inr ⟨v, by rw [e1, e2], B, Bg, G, ρ, e, ρ1, S, h1, fun y G2 H2 S2 T2 r2 => idx_dct S2.sub (r.mono T2.g) r2 h3 fun v rv => q v G2 H2 S2 T2 rv⟩
          | _ => simp [gIdx] at h3
        · cases hf
      · rename_i d h0
        obtain ⟨o, e1, v, e2, r⟩ := S.sl i _ h0
        split at hf
        · rename_i d' h0'
          split at hf
          · rename_i c' h3
            simp only [Option.some.injEq, Prod.mk.injEq] at hf
            obtain ⟨rfl, rfl⟩ := hf
            have key : ∀ y G2 H2, Sta B Bg G2 H2 ρ1 σ → Stp σ G H ρ G2 H2 ρ1 → Rep G2 e y → (rIx X.K v y H2 Q ∧ ∀ ks ds, d' ≠ .dct ks ds) ∨ (rDGetD v y H2 Q ∧ ∃ ks ds, d' = .dct ks ds) := fun y G2 H2 S2 T2 r2 => by
              obtain ⟨o', e1', v', e2', r'⟩ := S2.sl i _ h0'
              rw [e1, e2, e2'] at e1'
              have ev : v = v' := by cases e1'; rfl
              subst ev
              exact own_idx r' r2 h3 fun u ru => q u G2 H2 S2 T2 ru
            by_cases hd' : ∃ ks ds, d' = .dct ks ds
            · refine .inr ⟨v, by rw [e1, e2], B, Bg, G, ρ, e, ρ1, S, h1, fun y G2 H2 S2 T2 r2 => ?_⟩
              rcases key y G2 H2 S2 T2 r2 with ⟨_, z⟩ | ⟨z, _⟩
              · obtain ⟨ks, ds, z2⟩ := hd'
                exact absurd z2 (z ks ds)
              · exact z
            · refine .inl ⟨v, by rw [e1, e2], B, Bg, G, ρ, e, ρ1, S, h1, fun y G2 H2 S2 T2 r2 => ?_⟩
              rcases key y G2 H2 S2 T2 r2 with ⟨z, _⟩ | ⟨_, z⟩
              · exact z
              · exact absurd z hd'
          · cases hf
        · cases hf
      · cases hf
    · cases hf

/-! ### slices of lists -/
abbrev Ox := Env → Option (Option Int × Env)
def tOx (f : Ox) : TO := fun σ H Q => ∃ B Bg G ρ o ρ', Sta B Bg G H ρ σ ∧ f ρ = some (o, ρ') ∧ ∀ G' H', Sta B Bg G' H' ρ' σ → Stp σ G H ρ G' H' ρ' → Q o H'
abbrev QO (X : Cx) (e : Option Expr) (f : Ox) : Prop := L2.PO X e (tOx f)
def oNone : Ox := fun ρ => some (none, ρ)
def oSome (f : Ex) : Ox := fun ρ => match f ρ with
  | some (.int i, ρ1) => some (some i, ρ1)
  | _ => none
theorem _root_.L2.PO.weak {X : Cx} {e : Option Expr} {t u : TO} (h : L2.PO X e t) (w : ∀ σ H Q, u σ H Q → t σ H Q) : L2.PO X e u := ⟨fun pins s σ H Q I q => h.run pins s σ H Q I (w σ H Q q)⟩
theorem o_none : QO X none oNone := L2.PO.weak po_none fun σ H Q ⟨B, Bg, G, ρ, o, ρ', S, hf, q⟩ => by
  simp only [oNone, Option.some.injEq, Prod.mk.injEq] at hf
  obtain ⟨rfl, rfl⟩ := hf
  exact q G H S .refl
theorem o_some {f : Ex} (h : PX X e f) : QO X (some e) (oSome f) := L2.PO.weak (po_some h) fun σ H Q ⟨B, Bg, G, ρ, o, ρ', S, hf, q⟩ => by
  unfold oSome at hf
  split at hf
  · rename_i i ρ1 h1
    simp only [Option.some.injEq, Prod.mk.injEq] at hf
    obtain ⟨rfl, rfl⟩ := hf
    exact ⟨B, Bg, G, ρ, _, ρ1, S, h1, fun v G1 H1 S1 T1 r1 => ⟨i, Rep.int_iff.mp r1, q G1 H1 S1 T1⟩⟩
  · cases hf
def cutD (ds : List D) (lo hi : Option Int) : List D := (ds.drop (HT.sIx ds.length 0 lo)).take (HT.sIx ds.length ds.length hi - HT.sIx ds.length 0 lo)
def eSl (f : Ex) (lo hi : Ox) : Ex := fun ρ => match f ρ with
  | some (.lst ds, ρ1) => (match lo ρ1 with
    | some (l, ρ2) => (match hi ρ2 with
      | some (u, ρ3) => some (.lst (cutD ds l u), ρ3)
      | none => none)
    | none => none)
  | _ => none
theorem Reps.cut {G : Hp} {ds : List D} {vs : List V} (r : Reps G ds vs) (lo hi : Option Int) : Reps G (cutD ds lo hi) (cutV vs lo hi) := by
  unfold cutD cutV
  rw [r.length]
  exact (r.drop _).take _
theorem n_sl {f : Ex} {lo hi : Option Expr} {fl fh : Ox} {p2 : Pos} (he : PX X e f) (hl : QO X lo fl) (hh : QO X hi fh) : PN X (.Subscript e (.Slice lo hi none p2) pos) (eSl f fl fh) :=
  L2.PE.weak (pe_slice sl_list he hl hh) fun σ H Q ⟨B, Bg, G, ρ, c, ρ', S, hf, q⟩ => by
    unfold eSl at hf
    split at hf
    · rename_i ds ρ1 h1
      split at hf
      · rename_i l ρ2 h2
        split at hf
        · rename_i u ρ3 h3
          simp only [Option.some.injEq, Prod.mk.injEq] at hf
          obtain ⟨rfl, rfl⟩ := hf
          refine ⟨B, Bg, G, ρ, _, ρ1, S, h1, fun x G1 H1 S1 T1 r1 => ⟨B, Bg, G1, ρ1, l, ρ2, S1, h2, fun G2 H2 S2 T2 => ⟨B, Bg, G2, ρ2, u, ρ3, S2, h3, fun G3 H3 S3 T3 => ?_⟩⟩⟩
          obtain ⟨a', vs, rfl, ga, r⟩ := Rep.lst_iff.mp ((r1.mono T2.g).mono T3.g)
          refine ⟨a', vs, rfl, .of (S3.sub _ _ ga), fun p np => ?_⟩
          obtain ⟨S4, T4, o4⟩ := own_new (d := .lst (cutD ds l u)) (o := .lst (cutV vs l u)) S3 np ⟨_, rfl, r.cut l u⟩
          have T13 := (T1.trans T2).trans T3
          exact q _ _ _ S4 (T13.trans T4) o4 fun b eb => by cases eb; exact stp_none T13 np
        · cases hf
      · cases hf
    · cases hf

/-! ### calls of built-ins -/
def OkC (r : List V → Hp → VK → Prop) (g : List D → Option D) : Prop := ∀ (G H : Hp) (ds : List D) (c : D) (vs : List V) (Q : VK), Sm G H → Reps G ds vs → g ds = some c → (∀ v G' H', Lay G H G' H' → Rep G' c v → Q v H') → r vs H Q
/-- .. a new thing of one's own -/
def OkCN (r : List V → Hp → VK → Prop) (g : List D → Option D) : Prop := ∀ (G H : Hp) (ds : List D) (c : D) (vs : List V) (Q : VK), Sm G H → Reps G ds vs → g ds = some c → (∀ p o, H p = none → Holds G p c o → Q (.ref p) (upd H p o)) → r vs H Q
def eCall (g : List D → Option D) (f : Ax) : Ex := fun ρ => match f ρ with
  | some (ds, ρ1) => (match g ds with
    | some c => some (c, ρ1)
    | none => none)
  | none => none
theorem eCall_inv {g : List D → Option D} {f : Ax} {ρ ρ' : Env} {c : D} (h : eCall g f ρ = some (c, ρ')) : ∃ ds, f ρ = some (ds, ρ') ∧ g ds = some c := by
  unfold eCall at h
  split at h
  · rename_i ds ρ1 h1
    split at h
    · rename_i c' h2
      simp only [Option.some.injEq, Prod.mk.injEq] at h
      obtain ⟨rfl, rfl⟩ := h
      exact ⟨ds, h1, h2⟩
    · cases h
  · cases h
theorem call_read {r : List V → Hp → VK → Prop} {g : List D → Option D} {f : Ax} (ok : OkC r g) : ∀ σ H Q, tX (eCall g f) σ H Q → tCB r (tL f) σ H Q := fun σ H Q ⟨B, Bg, G, ρ, c, ρ', S, hf, q⟩ => by
  obtain ⟨ds, h1, h2⟩ := eCall_inv hf
  exact ⟨B, Bg, G, ρ, ds, ρ', S, h1, fun vs G1 H1 S1 T1 r1 => ok G1 H1 ds c vs Q S1.sub r1 h2 fun v G2 H2 l rv => q v G2 H2 (S1.lay l) (T1.trans (.lay l)) rv⟩
theorem call_readN {r : List V → Hp → VK → Prop} {g : List D → Option D} {f : Ax} (ok : OkCN r g) : ∀ σ H Q, tO (eCall g f) σ H Q → tCB r (tL f) σ H Q := fun σ H Q ⟨B, Bg, G, ρ, c, ρ', S, hf, q⟩ => by
  obtain ⟨ds, h1, h2⟩ := eCall_inv hf
  refine ⟨B, Bg, G, ρ, ds, ρ', S, h1, fun vs G1 H1 S1 T1 r1 => ok G1 H1 ds c vs Q S1.sub r1 h2 fun p o np ho => ?_⟩
  obtain ⟨S2, T2, o2⟩ := own_new S1 np ho
  exact q _ _ _ S2 (T1.trans T2) o2 fun a ea => by cases ea; exact stp_none T1 np
section
variable {x : Str} {p : Pos} {es : List Expr} {id T : String} {r : List V → Hp → VK → Prop} {g : List D → Option D} {f : Ax}
theorem x_callB (hc : CallR X (.builtin id) r) (ok : OkC r g) (hg : Gl X x) (hm : X.mg x = none) (hv : bootBuiltins x = some (.builtin id)) (ha : QA X (e :: es) f) (hn : x ≠ "__name__" := by decide) (hdb : (x == ("__debug__" : Str)) = false := by decide)
    (he : starEach (e :: es) X.env = (false, eval e X.env) :: starEach es X.env := by rfl) (hpl : (backTo pos (starEach es X.env)).any (·.1) = false := by rfl) : PX X (.Call (.Name x p) (e :: es) [] pos) (eCall g f) :=
  L2.PE.weak (pe_callB hc hg hm hv ha hn hdb he hpl) (call_read ok)
theorem x_callTy (hc : CallR X (.type T) r) (ok : OkC r g) (hg : Gl X x) (hm : X.mg x = none) (hv : bootBuiltins x = some (.type T)) (ha : QA X (e :: es) f) (hn : x ≠ "__name__" := by decide) (hdb : (x == ("__debug__" : Str)) = false := by decide)
    (he : starEach (e :: es) X.env = (false, eval e X.env) :: starEach es X.env := by rfl) (hpl : (backTo pos (starEach es X.env)).any (·.1) = false := by rfl) : PX X (.Call (.Name x p) (e :: es) [] pos) (eCall g f) :=
  L2.PE.weak (pe_callTy hc hg hm hv ha hn hdb he hpl) (call_read ok)
theorem n_callB (hc : CallR X (.builtin id) r) (ok : OkCN r g) (hg : Gl X x) (hm : X.mg x = none) (hv : bootBuiltins x = some (.builtin id)) (ha : QA X (e :: es) f) (hn : x ≠ "__name__" := by decide) (hdb : (x == ("__debug__" : Str)) = false := by decide)
    (he : starEach (e :: es) X.env = (false, eval e X.env) :: starEach es X.env := by rfl) (hpl : (backTo pos (starEach es X.env)).any (·.1) = false := by rfl) : PN X (.Call (.Name x p) (e :: es) [] pos) (eCall g f) :=
  L2.PE.weak (pe_callB hc hg hm hv ha hn hdb he hpl) (call_readN ok)
theorem n_callTy (hc : CallR X (.type T) r) (ok : OkCN r g) (hg : Gl X x) (hm : X.mg x = none) (hv : bootBuiltins x = some (.type T)) (ha : QA X (e :: es) f) (hn : x ≠ "__name__" := by decide) (hdb : (x == ("__debug__" : Str)) = false := by decide)
    (he : starEach (e :: es) X.env = (false, eval e X.env) :: starEach es X.env := by rfl) (hpl : (backTo pos (starEach es X.env)).any (·.1) = false := by rfl) : PN X (.Call (.Name x p) (e :: es) [] pos) (eCall g f) :=
  L2.PE.weak (pe_callTy hc hg hm hv ha hn hdb he hpl) (call_readN ok)
end

/-! ### calls of the text's own defs -/
/-- what a def of values promises; own: it hands back a new thing that nobody else holds -/
def spV (own : Bool) (g : List D → Option D) : Sp := fun vs H Q _ => ∃ G ds d, Sm G H ∧ Reps G ds vs ∧ g ds = some d ∧
  ∀ v G' H', Lay G H G' H' → (if own = true then Own H G' H' d v else Rep G' d v) → Q v H'
section
variable {x : Str} {p : Pos} {es : List Expr} {g : List D → Option D} {f : Ax} {CX : CXT} {k : Nat} {fa : Addr} {fd : FuncData} {ps : List Str} {E : XK}
theorem x_fn (F : FnOk X.prog X.w X.K X.mg X.base CX k fa fd ps (spV false g)) (hr : Room k X.A) (hg : Gl X x) (hm : X.mg x = some (.ref fa)) (hk : PySem.W.keepIn X.K (.ref fa) = true) (hb : Binds X.K fd ps []) (hx : Passes CX X E) (ha : QA X (e :: es) f)
    (hdb : (x == ("__debug__" : Str)) = false := by decide) (he : starEach (e :: es) X.env = (false, eval e X.env) :: starEach es X.env := by rfl) (hpl : (backTo pos (starEach es X.env)).any (·.1) = false := by rfl) : PX X (.Call (.Name x p) (e :: es) [] pos) (eCall g f) :=
  L2.PE.weak (pe_call F hr hg hm hk hb .nil hx ha hdb he hpl) fun σ H Q ⟨B, Bg, G, ρ, c, ρ', S, hf, q⟩ => by
    obtain ⟨ds, h1, h2⟩ := eCall_inv hf
    refine ⟨B, Bg, G, ρ, ds, ρ', S, h1, fun vs G1 H1 S1 T1 r1 => ⟨G1, ds, c, S1.sub, by simpa using r1, h2, fun v G2 H2 l rv => ?_⟩⟩
    exact q v G2 H2 (S1.lay l) (T1.trans (.lay l)) (by simpa using rv)
theorem n_fn (F : FnOk X.prog X.w X.K X.mg X.base CX k fa fd ps (spV true g)) (hr : Room k X.A) (hg : Gl X x) (hm : X.mg x = some (.ref fa)) (hk : PySem.W.keepIn X.K (.ref fa) = true) (hb : Binds X.K fd ps []) (hx : Passes CX X E) (ha : QA X (e :: es) f)
    (hdb : (x == ("__debug__" : Str)) = false := by decide) (he : starEach (e :: es) X.env = (false, eval e X.env) :: starEach es X.env := by rfl) (hpl : (backTo pos (starEach es X.env)).any (·.1) = false := by rfl) : PN X (.Call (.Name x p) (e :: es) [] pos) (eCall g f) :=
  L2.PE.weak (pe_call F hr hg hm hk hb .nil hx ha hdb he hpl) fun σ H Q ⟨B, Bg, G, ρ, c, ρ', S, hf, q⟩ => by
    obtain ⟨ds, h1, h2⟩ := eCall_inv hf
    refine ⟨B, Bg, G, ρ, ds, ρ', S, h1, fun vs G1 H1 S1 T1 r1 => ⟨G1, ds, c, S1.sub, by simpa using r1, h2, fun v G2 H2 l rv => ?_⟩⟩
    have rv' : Own H1 G2 H2 c v := by simpa using rv
    obtain ⟨a, ea, na, ga, ha⟩ := rv'.addr
    have S2 := S1.lay l
    refine q v G2 H2 S2 (T1.trans (.lay l)) ?_ fun b eb => ?_
    · obtain ⟨a', ea', _, ga', m⟩ := rv'
      rw [ea] at ea'; cases ea'
      exact ⟨a, ea, none_of_sm S1.old na, ga', m⟩
    · rw [ea] at eb; cases eb
      exact stp_none T1 na
end
end
end DL

/-! DL4: statements, targets, loops. -/
namespace DL
open PySem PySem.Spec PyProof.Rows L2

inductive Out where
  | nx (ρ : Env) | rt (d : D) | bk (ρ : Env) | ct (ρ : Env)
abbrev Sx := Env → Option Out
/-- what is handed back -/
def Ret (own : Bool) (B Bg G H : Hp) (d : D) (v : V) : Prop := Lay Bg B G H ∧ if own = true then Own B G H d v else Rep G d v
def Fin (own : Bool) (B Bg G : Hp) (o : Out) (Dn : Ends) : Prop := match o with
  | .nx ρ' => ∀ σ' G' H', Sta B Bg G' H' ρ' σ' → Sm G G' → Dn.nx σ' H'
  | .bk ρ' => ∀ σ' G' H', Sta B Bg G' H' ρ' σ' → Sm G G' → Dn.bk σ' H'
  | .ct ρ' => ∀ σ' G' H', Sta B Bg G' H' ρ' σ' → Sm G G' → Dn.ct σ' H'
  | .rt d => ∀ v G' H', Ret own B Bg G' H' d v → Dn.rt v H'
def tS (own : Bool) (F : Sx) : TS := fun Dn σ H => ∃ B Bg G ρ o, Sta B Bg G H ρ σ ∧ F ρ = some o ∧ Fin own B Bg G o Dn
abbrev SX (X : Cx) (own : Bool) (st : Stmt) (F : Sx) : Prop := PS X st (tS own F)
abbrev SB (X : Cx) (own : Bool) (st : List Stmt) (F : Sx) : Prop := PSs X st (tS own F)
theorem _root_.L2.PS.weak {X : Cx} {e : Stmt} {t u : TS} (h : PS X e t) (w : ∀ D σ H, u D σ H → t D σ H) : PS X e u := ⟨fun pins s σ H D I q => h.run pins s σ H D I (w D σ H q)⟩
theorem _root_.L2.PSs.weak {X : Cx} {e : List Stmt} {t u : TS} (h : PSs X e t) (w : ∀ D σ H, u D σ H → t D σ H) : PSs X e u := ⟨fun pins s σ H D I q => h.run pins s σ H D I (w D σ H q)⟩
theorem Sta.layB {B Bg G H : Hp} {ρ : Env} {σ : Ss} (S : Sta B Bg G H ρ σ) : Lay Bg B G H := ⟨S.oldG, S.old, S.sub, S.new⟩
theorem Fin.mono {own : Bool} {B Bg G G1 : Hp} {o : Out} {Dn : Ends} (s : Sm G G1) (h : Fin own B Bg G o Dn) : Fin own B Bg G1 o Dn := by
  cases o <;> simp only [Fin] at h ⊢
  · exact fun σ' G' H' S g => h σ' G' H' S fun b u e => g b u (s b u e)
  · exact h
  · exact fun σ' G' H' S g => h σ' G' H' S fun b u e => g b u (s b u e)
  · exact fun σ' G' H' S g => h σ' G' H' S fun b u e => g b u (s b u e)

section
variable {X : Cx} {own : Bool} {st : Stmt} {rest : List Stmt} {e : Expr} {pos : Pos}
def sNil : Sx := fun ρ => some (.nx ρ)
def sSeq (F F' : Sx) : Sx := fun ρ => match F ρ with
  | some (.nx ρ1) => F' ρ1
  | o => o
theorem s_nil : SB X own [] sNil := L2.PSs.weak pss_nil fun Dn σ H ⟨B, Bg, G, ρ, o, S, hf, q⟩ => by
  simp only [sNil, Option.some.injEq] at hf
  subst hf
  exact q σ G H S fun _ _ z => z
theorem s_one {F : Sx} (h : SX X own st F) : SB X own [st] F := pss_one h
theorem s_cons {F F' : Sx} (h : SX X own st F) (h' : SB X own rest F') : SB X own (st :: rest) (sSeq F F') := L2.PSs.weak (pss_cons h h') fun Dn σ H ⟨B, Bg, G, ρ, o, S, hf, q⟩ => by
  unfold sSeq at hf
  cases h1 : F ρ with
  | none => rw [h1] at hf; cases hf
  | some o1 =>
    rw [h1] at hf
    refine ⟨B, Bg, G, ρ, o1, S, h1, ?_⟩
    cases o1 with
    | nx ρ1 => exact fun σ' G' H' S' g => ⟨B, Bg, G', ρ1, o, S', hf, q.mono g⟩
    | rt d => cases hf; exact q
    | bk ρ1 => cases hf; exact q
    | ct ρ1 => cases hf; exact q
theorem s_pass : SX X own (.Pass pos) sNil := L2.PS.weak ps_pass fun Dn σ H ⟨B, Bg, G, ρ, o, S, hf, q⟩ => by
  simp only [sNil, Option.some.injEq] at hf
  subst hf
  exact q σ G H S fun _ _ z => z
def sBrk : Sx := fun ρ => some (.bk ρ)
def sCnt : Sx := fun ρ => some (.ct ρ)
theorem s_brk : SX X own (.Break pos) sBrk := L2.PS.weak ps_break fun Dn σ H ⟨B, Bg, G, ρ, o, S, hf, q⟩ => by
  simp only [sBrk, Option.some.injEq] at hf
  subst hf
  exact q σ G H S fun _ _ z => z
theorem s_cnt : SX X own (.Continue pos) sCnt := L2.PS.weak ps_continue fun Dn σ H ⟨B, Bg, G, ρ, o, S, hf, q⟩ => by
  simp only [sCnt, Option.some.injEq] at hf
  subst hf
  exact q σ G H S fun _ _ z => z
def sIf (c : Tx) (F F' : Sx) : Sx := fun ρ => match c ρ with
  | some (true, ρ1) => F ρ1
  | some (false, ρ1) => F' ρ1
  | none => none
theorem s_if {c : Expr} {a b : List Stmt} {fc : Tx} {F F' : Sx} (hc : QT X c fc) (ha : SB X own a F) (hb : SB X own b F') : SX X own (.If c a b pos) (sIf fc F F') := L2.PS.weak (ps_if hc ha hb) fun Dn σ H ⟨B, Bg, G, ρ, o, S, hf, q⟩ => by
  unfold sIf at hf
  split at hf
  · rename_i ρ1 h1
    refine ⟨B, Bg, G, ρ, true, ρ1, S, h1, fun G1 H1 S1 T1 => ?_⟩
    refine iteT ?_
    exact ⟨B, Bg, G1, ρ1, o, S1, hf, q.mono T1.g⟩
  · rename_i ρ1 h1
    refine ⟨B, Bg, G, ρ, false, ρ1, S, h1, fun G1 H1 S1 T1 => ?_⟩
    refine iteF ?_
    exact ⟨B, Bg, G1, ρ1, o, S1, hf, q.mono T1.g⟩
  · cases hf
def sRet (f : Ex) : Sx := fun ρ => match f ρ with
  | some (d, _) => some (.rt d)
  | none => none
theorem s_ret {f : Ex} (h : PX X e f) : SX X false (.Return (some e) pos) (sRet f) := L2.PS.weak (ps_ret h) fun Dn σ H ⟨B, Bg, G, ρ, o, S, hf, q⟩ => by
  unfold sRet at hf
  split at hf
  · rename_i d ρ1 h1
    cases hf
    refine ⟨B, Bg, G, ρ, d, ρ1, S, h1, fun v G1 H1 S1 T1 r1 => q v G1 H1 ⟨S1.layB, ?_⟩⟩
    simpa using r1
  · cases hf
theorem s_retN {f : Ex} (h : PN X e f) : SX X true (.Return (some e) pos) (sRet f) := L2.PS.weak (ps_ret h) fun Dn σ H ⟨B, Bg, G, ρ, o, S, hf, q⟩ => by
  unfold sRet at hf
  split at hf
  · rename_i d ρ1 h1
    cases hf
    refine ⟨B, Bg, G, ρ, d, ρ1, S, h1, fun v G1 H1 S1 T1 o1 n1 => q v G1 H1 ⟨S1.layB, ?_⟩⟩
    simpa using o1
  · cases hf
/-- return of a thing of one's own by its name -/
def sRetV (i : Nat) : Sx := fun ρ => match ρ[i]? with
  | some (.ow d) => some (.rt d)
  | _ => none
theorem s_retV (i : Nat) {x : Str} {p1 : Pos} (hN : X.N[i]? = some x := by rfl) (hv : Vis X.env.scope x := by first | exact Or.inl rfl | exact Or.inr (Or.inl rfl) | exact Or.inr (Or.inr rfl)) (hd : (x == ("__debug__" : Str)) = false := by decide)
    (hcd : (x == ("__classdict__" : Str)) = false := by decide) : SX X true (.Return (some (.Name x p1)) pos) (sRetV i) := L2.PS.weak (ps_ret (pv i hN hv hd hcd)) fun Dn σ H ⟨B, Bg, G, ρ, o, S, hf, q⟩ => by
  unfold sRetV at hf
  split at hf
  · rename_i d h0
    cases hf
    obtain ⟨o1, e1, v, e2, r⟩ := S.sl i _ h0
    exact ⟨v, by rw [e1, e2], q v G H ⟨S.layB, by simpa using r⟩⟩
  · cases hf
theorem s_ret0 : SX X false (.Return none pos) (fun _ => some (.rt .non)) := L2.PS.weak ps_retN fun Dn σ H ⟨B, Bg, G, ρ, o, S, hf, q⟩ => by
  cases hf
  exact q .non G H ⟨S.layB, by simp [Rep.non_iff]⟩
/-- an expression by itself -/
def sExp (f : Ex) : Sx := fun ρ => match f ρ with
  | some (_, ρ1) => some (.nx ρ1)
  | none => none
theorem s_exp {f : Ex} (h : PX X e f) (hs : swapsWith e none pos.line X.env = pure false := by rfl) : SX X own (.Expr e pos) (sExp f) := L2.PS.weak (ps_expr h hs) fun Dn σ H ⟨B, Bg, G, ρ, o, S, hf, q⟩ => by
  unfold sExp at hf
  split at hf
  · rename_i d ρ1 h1
    cases hf
    exact ⟨B, Bg, G, ρ, d, ρ1, S, h1, fun v G1 H1 S1 T1 r1 => q σ G1 H1 S1 T1.g⟩
  · cases hf

/-! ### names stored -/
theorem Sta.setF {B Bg G H : Hp} {ρ : Env} {σ : Ss} {i : Nat} {d : D} {v : V} (S : Sta B Bg G H ρ σ) (r : Rep G d v) : Sta B Bg G H (ρ.set i (.fz d)) (σ.set i (some v)) where
  old := S.old
  oldG := S.oldG
  sub := S.sub
  new := S.new
  len := by simpa using S.len
  sl := fun j s q => by
    by_cases hj : j = i
    · subst hj
      by_cases hl : j < ρ.length
      · rw [List.getElem?_set_self hl] at q; cases q
        exact ⟨some v, by rw [List.getElem?_set_self (by rw [← S.len]; exact hl)], v, rfl, r⟩
      · rw [List.getElem?_eq_none (by simpa using hl)] at q; cases q
    · rw [List.getElem?_set_ne (Ne.symm hj)] at q
      obtain ⟨o, e1, k⟩ := S.sl j s q
      exact ⟨o, by rw [List.getElem?_set_ne (Ne.symm hj)]; exact e1, k⟩
  dist := fun j k d1 d2 q1 q2 hjk => by
    have n : ∀ j d1, (ρ.set i (.fz d))[j]? = some (.ow d1) → j ≠ i ∧ ρ[j]? = some (.ow d1) := fun j d1 q => by
      have hj : j ≠ i := fun z => by
        subst z
        by_cases hl : j < ρ.length
        · rw [List.getElem?_set_self hl] at q; cases q
        · rw [List.getElem?_eq_none (by simpa using hl)] at q; cases q
      rw [List.getElem?_set_ne (Ne.symm hj)] at q
      exact ⟨hj, q⟩
    obtain ⟨n1, q1⟩ := n j d1 q1
    obtain ⟨n2, q2⟩ := n k d2 q2
    rw [List.getElem?_set_ne (Ne.symm n1), List.getElem?_set_ne (Ne.symm n2)]
    exact S.dist j k d1 d2 q1 q2 hjk
theorem Sta.setO {B Bg G H : Hp} {ρ : Env} {σ : Ss} {i : Nat} {d : D} {v : V} (S : Sta B Bg G H ρ σ) (r : Own B G H d v) (n : ∀ (j : Nat) (d' : D), ρ[j]? = some (.ow d') → σ[j]? ≠ some (some v)) : Sta B Bg G H (ρ.set i (.ow d)) (σ.set i (some v)) where
  old := S.old
  oldG := S.oldG
  sub := S.sub
  new := S.new
  len := by simpa using S.len
  sl := fun j s q => by
    by_cases hj : j = i
    · subst hj
      by_cases hl : j < ρ.length
      · rw [List.getElem?_set_self hl] at q; cases q
        exact ⟨some v, by rw [List.getElem?_set_self (by rw [← S.len]; exact hl)], v, rfl, r⟩
      · rw [List.getElem?_eq_none (by simpa using hl)] at q; cases q
    · rw [List.getElem?_set_ne (Ne.symm hj)] at q
      obtain ⟨o, e1, k⟩ := S.sl j s q
      exact ⟨o, by rw [List.getElem?_set_ne (Ne.symm hj)]; exact e1, k⟩
  dist := fun j k d1 d2 q1 q2 hjk => by
    have n' : ∀ j d1, j ≠ i → (ρ.set i (.ow d))[j]? = some (.ow d1) → ρ[j]? = some (.ow d1) := fun j d1 hj q => by
      rw [List.getElem?_set_ne (Ne.symm hj)] at q
      exact q
    have self : ∀ d1, (ρ.set i (.ow d))[i]? = some (.ow d1) → (σ.set i (some v))[i]? = some (some v) := fun d1 q => by
      by_cases hl : i < ρ.length
      · rw [List.getElem?_set_self (by rw [← S.len]; exact hl)]
      · rw [List.getElem?_eq_none (by simpa using hl)] at q; cases q
    by_cases hj : j = i
    · subst hj
      have hk : k ≠ j := Ne.symm hjk
      rw [self d1 q1, List.getElem?_set_ne (Ne.symm hk)]
      exact fun z => n k d2 (n' k d2 hk q2) z.symm
    · by_cases hk : k = i
      · subst hk
        rw [self d2 q2, List.getElem?_set_ne (Ne.symm hj)]
        exact n j d1 (n' j d1 hj q1)
      · rw [List.getElem?_set_ne (Ne.symm hj), List.getElem?_set_ne (Ne.symm hk)]
        exact S.dist j k d1 d2 (n' j d1 hj q1) (n' k d2 hk q2) hjk
def sSet (i : Nat) (f : Ex) : Sx := fun ρ => match f ρ with
  | some (d, ρ1) => some (.nx (ρ1.set i (.fz d)))
  | none => none
def sSetN (i : Nat) (f : Ex) : Sx := fun ρ => match f ρ with
  | some (d, ρ1) => some (.nx (ρ1.set i (.ow d)))
  | none => none
theorem new_not_owned {B Bg G H G' H' : Hp} {ρ ρ' : Env} {σ : Ss} (S : Sta B Bg G H ρ σ) (T : Stp σ G H ρ G' H' ρ') {v : V} (n : ∀ a, v = .ref a → H a = none) (hv : ∃ a, v = .ref a) : ∀ (j : Nat) (d' : D), ρ'[j]? = some (.ow d') → σ[j]? ≠ some (some v) := fun j d' q z => by
  obtain ⟨d0, q0⟩ := T.ow j d' q
  obtain ⟨o1, e1, w, e2, r1⟩ := S.sl j _ q0
  obtain ⟨a1, e3, _, _, h1⟩ := r1.addr
  rw [z, e2] at e1
  have ev : v = w := by cases e1; rfl
  exact h1 (n a1 (ev.trans e3))
theorem set_read {i : Nat} {f : Ex} : ∀ Dn σ H, tS own (sSet i f) Dn σ H → tAsg (tX f) (gName i) Dn σ H := fun Dn σ H ⟨B, Bg, G, ρ, o, S, hf, q⟩ => by
  unfold sSet at hf
  split at hf
  · rename_i d ρ1 h1
    cases hf
    exact ⟨B, Bg, G, ρ, d, ρ1, S, h1, fun v G1 H1 S1 T1 r1 => q _ G1 H1 (S1.setF r1) T1.g⟩
  · cases hf
theorem setN_read {i : Nat} {f : Ex} : ∀ Dn σ H, tS own (sSetN i f) Dn σ H → tAsg (tO f) (gName i) Dn σ H := fun Dn σ H ⟨B, Bg, G, ρ, o, S, hf, q⟩ => by
  unfold sSetN at hf
  split at hf
  · rename_i d ρ1 h1
    cases hf
    exact ⟨B, Bg, G, ρ, d, ρ1, S, h1, fun v G1 H1 S1 T1 o1 n1 => q _ G1 H1 (S1.setO o1 (new_not_owned S T1 n1 (let ⟨a, ea, _⟩ := o1; ⟨a, ea⟩))) T1.g⟩
  · cases hf
section
variable {i : Nat} {x : Str} {f : Ex} {pos' : Pos}
theorem s_set (i : Nat) (hN : X.N.Nodup) (h : PX X e f) (hi : X.N[i]? = some x := by rfl) (hx : Loc X.env.scope x := by first | exact Or.inl rfl | exact Or.inr rfl) (hs : swapsWith e (some (.Name x pos')) pos.line X.env = pure false := by rfl)
    (hf : X.fn x = true ∨ X.env.scope.names.lookup x = some .local := by first | exact .inl rfl | exact .inr rfl | assumption) : SX X own (.Assign [.Name x pos'] e pos) (sSet i f) := L2.PS.weak (ps_set hN hi hx h hs hf) set_read
theorem s_setN (i : Nat) (hN : X.N.Nodup) (h : PN X e f) (hi : X.N[i]? = some x := by rfl) (hx : Loc X.env.scope x := by first | exact Or.inl rfl | exact Or.inr rfl) (hs : swapsWith e (some (.Name x pos')) pos.line X.env = pure false := by rfl)
    (hf : X.fn x = true ∨ X.env.scope.names.lookup x = some .local := by first | exact .inl rfl | exact .inr rfl | assumption) : SX X own (.Assign [.Name x pos'] e pos) (sSetN i f) := L2.PS.weak (ps_set hN hi hx h hs hf) setN_read
end

/-! ### targets -/
abbrev Gx := D → Env → Option Env
/-- T: the slots that the target may store -/
def tG (T : List Nat) (g : Gx) : TG := fun v σ H Q => ∃ B Bg G ρ d ρ', Sta B Bg G H ρ σ ∧ Rep G d v ∧ g d ρ = some ρ' ∧
  ∀ σ', Sta B Bg G H ρ' σ' → σ'.length = σ.length → (∀ (j : Nat), j ∉ T → σ'[j]? = σ[j]? ∧ ρ'[j]? = ρ[j]?) → (∀ (j : Nat) (d' : D), j ∈ T → ρ'[j]? ≠ some (.ow d')) → Q σ' H
abbrev QG (X : Cx) (tg : Expr) (T : List Nat) (g : Gx) : Prop := PG X tg (tG T g)
theorem _root_.L2.PG.weak {X : Cx} {e : Expr} {t u : TG} (h : PG X e t) (w : ∀ v σ H Q, u v σ H Q → t v σ H Q) : PG X e u := ⟨fun pins s σ H v u Q I r q => h.run pins s σ H v u Q I r (w v σ H Q q)⟩
def gN (i : Nat) : Gx := fun d ρ => some (ρ.set i (.fz d))
theorem g_name (i : Nat) {x : Str} (hN : X.N.Nodup) (hi : X.N[i]? = some x := by rfl) (hx : Loc X.env.scope x := by first | exact Or.inl rfl | exact Or.inr rfl) (hf : X.fn x = true ∨ X.env.scope.names.lookup x = some .local := by first | exact .inl rfl | exact .inr rfl | assumption) :
    QG X (.Name x pos) [i] (gN i) := L2.PG.weak (pg_name hN hi hx hf) fun v σ H Q ⟨B, Bg, G, ρ, d, ρ', S, r, hg, q⟩ => by
  simp only [gN, Option.some.injEq] at hg
  subst hg
  refine q _ (S.setF r) (by simp) (fun j hj => ?_) fun j d' hj => ?_
  · have hj' : i ≠ j := fun z => hj (by simp [z])
    exact ⟨List.getElem?_set_ne hj', List.getElem?_set_ne hj'⟩
  · have e : j = i := by simpa using hj
    subst e
    by_cases hl : j < ρ.length
    · rw [List.getElem?_set_self hl]; exact fun z => nomatch z
    · rw [List.getElem?_eq_none (by simpa using hl)]; exact fun z => nomatch z
/-- several targets for several values -/
abbrev Gxs := List D → Env → Option Env
def tGs (T : List Nat) (g : Gxs) : TGs := fun vs σ H Q => ∃ B Bg G ρ ds ρ', Sta B Bg G H ρ σ ∧ Reps G ds vs ∧ g ds ρ = some ρ' ∧
  ∀ σ', Sta B Bg G H ρ' σ' → σ'.length = σ.length → (∀ (j : Nat), j ∉ T → σ'[j]? = σ[j]? ∧ ρ'[j]? = ρ[j]?) → (∀ (j : Nat) (d' : D), j ∈ T → ρ'[j]? ≠ some (.ow d')) → Q σ' H
abbrev QGs (X : Cx) (ts : List Expr) (T : List Nat) (g : Gxs) : Prop := PGs X ts (tGs T g)
theorem _root_.L2.PGs.weak {X : Cx} {e : List Expr} {t u : TGs} (h : PGs X e t) (w : ∀ v σ H Q, u v σ H Q → t v σ H Q) : PGs X e u := ⟨fun pins s σ H v u Q I r q => h.run pins s σ H v u Q I r (w v σ H Q q)⟩
def gNil : Gxs := fun ds ρ => match ds with
  | [] => some ρ
  | _ => none
def gCons (g : Gx) (gs : Gxs) : Gxs := fun ds ρ => match ds with
  | d :: r => (match g d ρ with
    | some ρ1 => gs r ρ1
    | none => none)
  | [] => none
theorem g_nil : QGs X [] [] gNil := L2.PGs.weak pgs_nil fun v σ H Q ⟨B, Bg, G, ρ, ds, ρ', S, r, hg, q⟩ => by
  cases ds with
  | nil =>
    simp only [gNil, Option.some.injEq] at hg
    subst hg
    exact ⟨r.inv0, q σ S rfl (fun _ _ => ⟨rfl, rfl⟩) fun _ _ z => by cases z⟩
  | cons => simp [gNil] at hg
theorem g_cons {es : List Expr} {T T' : List Nat} {g : Gx} {gs : Gxs} (h1 : QG X e T g) (h2 : QGs X es T' gs)
    (hs : (assignEach (e :: es) X.env).map (·.2) = assign e X.env :: (assignEach es X.env).map (·.2) := by rfl) : QGs X (e :: es) (T ++ T') (gCons g gs) := L2.PGs.weak (pgs_cons h1 h2 hs) fun v σ H Q ⟨B, Bg, G, ρ, ds, ρ', S, r, hg, q⟩ => by
  cases ds with
  | nil => simp [gCons] at hg
  | cons d dr =>
    obtain ⟨v1, vr, rfl, r1, r2⟩ := r.inv
    simp only [gCons] at hg
    split at hg
    · rename_i ρ1 h1
      refine ⟨v1, vr, rfl, B, Bg, G, ρ, d, ρ1, S, r1, h1, fun σ1 S1 l1 k1 n1 => ?_⟩
      refine ⟨B, Bg, G, ρ1, dr, ρ', S1, r2, hg, fun σ2 S2 l2 k2 n2 => ?_⟩
      refine q σ2 S2 (l2.trans l1) (fun j hj => ?_) fun j d' hj => ?_
      · simp only [List.mem_append, not_or] at hj
        exact ⟨(k2 j hj.2).1.trans (k1 j hj.1).1, (k2 j hj.2).2.trans (k1 j hj.1).2⟩
      · by_cases hj2 : j ∈ T'
        · exact n2 j d' hj2
        · rw [(k2 j hj2).2]
          exact n1 j d' ((List.mem_append.mp hj).resolve_right hj2)
    · cases hg
def gTupD (gs : Gxs) : Gx := fun d ρ => match d with
  | .tup ds => gs ds ρ
  | _ => none
theorem gsLen {n : Nat} {gs : Gxs} : True := trivial
theorem g_tup {es : List Expr} {k n : Nat} {T : List Nat} {gs : Gxs} (hc : X.calm = true) (h : QGs X es T gs) (hl : ∀ ds ρ ρ', gs ds ρ = some ρ' → ds.length = n)
    (hn : (assignEach es X.env).length = n := by rfl) (hst : (assignEach es X.env).findIdx? (·.1) = none := by rfl) : QG X (.Tuple es k pos) T (gTupD gs) := L2.PG.weak (pg_tup hc h hn hst) fun v σ H Q ⟨B, Bg, G, ρ, d, ρ', S, r, hg, q⟩ => by
  cases d with
  | tup ds =>
    obtain ⟨a, vs, rfl, ga, rs⟩ := Rep.tup_iff.mp r
    exact ⟨a, vs, rfl, .of (S.sub _ _ ga), by rw [← rs.length]; exact hl ds ρ ρ' hg, B, Bg, G, ρ, ds, ρ', S, rs, hg, q⟩
  | _ => simp [gTupD] at hg
theorem gl_nil : ∀ ds ρ ρ', gNil ds ρ = some ρ' → ds.length = 0 := fun ds ρ ρ' h => by
  cases ds with
  | nil => rfl
  | cons => simp [gNil] at h
theorem gl_cons {g : Gx} {gs : Gxs} {n : Nat} (h : ∀ ds ρ ρ', gs ds ρ = some ρ' → ds.length = n) : ∀ ds ρ ρ', gCons g gs ds ρ = some ρ' → ds.length = n + 1 := fun ds ρ ρ' e => by
  cases ds with
  | nil => simp [gCons] at e
  | cons d r =>
    simp only [gCons] at e
    split at e
    · exact congrArg Nat.succ (h _ _ _ e)
    · cases e
/-- target = value, any target -/
def sAsg (g : Gx) (f : Ex) : Sx := fun ρ => match f ρ with
  | some (d, ρ1) => (match g d ρ1 with
    | some ρ2 => some (.nx ρ2)
    | none => none)
  | none => none
theorem s_asg {tg : Expr} {T : List Nat} {g : Gx} {f : Ex} (he : PX X e f) (hg : QG X tg T g) (hs : swapsWithSole [tg] e pos.line X.env = pure false := by rfl) (hw : swappedStores [tg] e X.env = pure none := by rfl)
    (h1 : (assignEach [tg] X.env).map (·.2) = [assign tg X.env] := by rfl) : SX X own (.Assign [tg] e pos) (sAsg g f) := L2.PS.weak (ps_asg he hg hs hw h1) fun Dn σ H ⟨B, Bg, G, ρ, o, S, hf, q⟩ => by
  unfold sAsg at hf
  split at hf
  · rename_i d ρ1 h1
    split at hf
    · rename_i ρ2 h2
      cases hf
      exact ⟨B, Bg, G, ρ, d, ρ1, S, h1, fun v G1 H1 S1 T1 r1 => ⟨B, Bg, G1, ρ1, d, ρ2, S1, r1, h2, fun σ' S' _ _ _ => q σ' G1 H1 S' T1.g⟩⟩
    · cases hf
  · cases hf

/-! ### what is walked -/
structure Walk (J : It) (G : Hp) (ds : List D) : Prop where
  go : ∀ i G2 H2, Sm G G2 → Sm G2 H2 → i < ds.length → J.go i H2
  yld : ∀ i G2 H2 x H3 d, Sm G G2 → Sm G2 H2 → ds[i]? = some d → J.yld i H2 x H3 → ∃ G3, Lay G2 H2 G3 H3 ∧ Rep G3 d x
  stop : ∀ i G2 H2, Sm G G2 → Sm G2 H2 → ds.length ≤ i → J.stop i H2
def tI (f : Ax) : TI := fun σ H R => ∃ B Bg G ρ ds ρ', Sta B Bg G H ρ σ ∧ f ρ = some (ds, ρ') ∧
  ∀ J G' H', Sta B Bg G' H' ρ' σ → Stp σ G H ρ G' H' ρ' → Walk J G' ds → R J H'
abbrev QI (X : Cx) (tg iter : Expr) (f : Ax) : Prop := PI X tg iter (tI f)
theorem _root_.L2.PI.weak {X : Cx} {tg e : Expr} {t u : TI} (h : PI X tg e t) (w : ∀ σ H Q, u σ H Q → t σ H Q) : PI X tg e u := ⟨fun pins s σ H Q I q => h.run pins s σ H Q I (w σ H Q q)⟩
theorem walk_list {K : PySem.W.Frag} {G : Hp} {a : Addr} {vs : List V} {ds : List D} (ga : G a = some (.lst vs)) (r : Reps G ds vs) : Walk (Itl K a) G ds where
  go := fun i G2 H2 g s hi => by
    have hl := r.length
    exact ⟨vs, vs[i], .of (s _ _ (g _ _ ga)), List.getElem?_eq_getElem (by omega)⟩
  yld := fun i G2 H2 x H3 d g s hd ⟨e, h⟩ => by
    subst e
    obtain ⟨v, h1, h2⟩ := r.get hd
    have := h vs (.of (s _ _ (g _ _ ga)))
    rw [h1] at this; cases this
    exact ⟨G2, .refl s, h2.mono g⟩
  stop := fun i G2 H2 g s hi => ⟨vs, .of (s _ _ (g _ _ ga)), by rw [← r.length]; exact hi⟩
theorem walk_tup {K : PySem.W.Frag} {G : Hp} {a : Addr} {vs : List V} {ds : List D} (ga : G a = some (.tup vs)) (r : Reps G ds vs) : Walk (Itt K a) G ds where
  go := fun i G2 H2 g s hi => by
    have hl := r.length
    exact ⟨vs, vs[i], .of (s _ _ (g _ _ ga)), List.getElem?_eq_getElem (by omega)⟩
  yld := fun i G2 H2 x H3 d g s hd ⟨e, h⟩ => by
    subst e
    obtain ⟨v, h1, h2⟩ := r.get hd
    have := h vs (.of (s _ _ (g _ _ ga)))
    rw [h1] at this; cases this
    exact ⟨G2, .refl s, h2.mono g⟩
  stop := fun i G2 H2 g s hi => ⟨vs, .of (s _ _ (g _ _ ga)), by rw [← r.length]; exact hi⟩
def rangeD (lo : Int) (n : Nat) : List D := (List.range n).map fun (i : Nat) => D.int (lo + (i : Int))
theorem walk_range {G : Hp} {lo : Int} {n : Nat} : Walk (Itr lo n) G (rangeD lo n) where
  go := fun i G2 H2 g s hi => show i < n from by simpa [rangeD] using hi
  yld := fun i G2 H2 x H3 d g s hd ⟨e, h⟩ => by
    subst e h
    unfold rangeD at hd
    rw [List.getElem?_map] at hd
    cases hr : (List.range n)[i]? with
    | none => rw [hr] at hd; cases hd
    | some j =>
      rw [hr] at hd
      have hj : j = i := by
        have := List.getElem?_eq_some_iff.mp hr
        obtain ⟨_, h2⟩ := this
        simpa using h2.symm
      subst hj
      cases hd
      exact ⟨G2, .refl s, .int⟩
  stop := fun i G2 H2 g s hi => by
    have : n ≤ i := by simpa [rangeD] using hi
    exact this
/-- a value that is a list (or a tuple, by iTupF) -/
def iSeq (f : Ex) : Ax := fun ρ => match f ρ with
  | some (.lst ds, ρ1) => some (ds, ρ1)
  | _ => none
def iTupF (f : Ex) : Ax := fun ρ => match f ρ with
  | some (.tup ds, ρ1) => some (ds, ρ1)
  | _ => none
theorem i_list {tg l : Expr} {f : Ex} (h : PX X l f) : QI X tg l (iSeq f) := L2.PI.weak (pi_list h) fun σ H R ⟨B, Bg, G, ρ, ds, ρ', S, hf, q⟩ => by
  unfold iSeq at hf
  split at hf
  · rename_i ds' ρ1 h1
    cases hf
    refine ⟨B, Bg, G, ρ, _, _, S, h1, fun v G1 H1 S1 T1 r1 => ?_⟩
    obtain ⟨a, vs, rfl, ga, rs⟩ := Rep.lst_iff.mp r1
    exact ⟨a, rfl, ⟨vs, .of (S1.sub _ _ ga)⟩, q _ G1 H1 S1 T1 (walk_list ga rs)⟩
  · cases hf
theorem i_tup {tg l : Expr} {f : Ex} (h : PX X l f) : QI X tg l (iTupF f) := L2.PI.weak (pi_tup h) fun σ H R ⟨B, Bg, G, ρ, ds, ρ', S, hf, q⟩ => by
  unfold iTupF at hf
  split at hf
  · rename_i ds' ρ1 h1
    cases hf
    refine ⟨B, Bg, G, ρ, _, _, S, h1, fun v G1 H1 S1 T1 r1 => ?_⟩
    obtain ⟨a, vs, rfl, ga, rs⟩ := Rep.tup_iff.mp r1
    exact ⟨a, rfl, ⟨vs, .of (S1.sub _ _ ga)⟩, q _ G1 H1 S1 T1 (walk_tup ga rs)⟩
  · cases hf
def iRng1 (f : Ax) : Ax := fun ρ => match f ρ with
  | some ([.int j], ρ1) => if decide (-(2 ^ 62) ≤ j) && decide (j < 2 ^ 62) then some (rangeD 0 j.toNat, ρ1) else none
  | _ => none
def iRng2 (f : Ax) : Ax := fun ρ => match f ρ with
  | some ([.int i, .int j], ρ1) => if (decide (-(2 ^ 62) ≤ i) && decide (i < 2 ^ 62)) && (decide (-(2 ^ 62) ≤ j) && decide (j < 2 ^ 62)) then some (rangeD i (j - i).toNat, ρ1) else none
  | _ => none
theorem i_range1 {tg a : Expr} {f : Ax} {p : Pos} (hg : Gl X "range") (hm : X.mg "range" = none) (ha : QA X [a] f) (hs : starEach [a] X.env = [(false, eval a X.env)] := by rfl) : QI X tg (.Call (.Name "range" p) [a] [] pos) (iRng1 f) :=
  L2.PI.weak (pi_range1 hg hm ha hs) fun σ H R ⟨B, Bg, G, ρ, ds, ρ', S, hf, q⟩ => by
    unfold iRng1 at hf
    split at hf
    · rename_i j ρ1 h1
      split at hf
      · rename_i hb
        simp only [Bool.and_eq_true, decide_eq_true_eq] at hb
        cases hf
        refine ⟨B, Bg, G, ρ, _, _, S, h1, fun vs G1 H1 S1 T1 r1 => ?_⟩
        obtain ⟨v, r, rfl, r2, r3⟩ := r1.inv
        rw [r3.inv0, Rep.int_iff.mp r2]
        exact ⟨j, rfl, hb.1, hb.2, q _ G1 H1 S1 T1 walk_range⟩
      · cases hf
    · cases hf
theorem i_range2 {tg a b : Expr} {f : Ax} {p : Pos} (hg : Gl X "range") (hm : X.mg "range" = none) (ha : QA X [a, b] f) (hs : starEach [a, b] X.env = [(false, eval a X.env), (false, eval b X.env)] := by rfl) (hs2 : starEach [b] X.env = [(false, eval b X.env)] := by rfl) :
    QI X tg (.Call (.Name "range" p) [a, b] [] pos) (iRng2 f) :=
  L2.PI.weak (pi_range2 hg hm ha hs hs2) fun σ H R ⟨B, Bg, G, ρ, ds, ρ', S, hf, q⟩ => by
    unfold iRng2 at hf
    split at hf
    · rename_i i j ρ1 h1
      split at hf
      · rename_i hb
        simp only [Bool.and_eq_true, decide_eq_true_eq] at hb
        cases hf
        refine ⟨B, Bg, G, ρ, _, _, S, h1, fun vs G1 H1 S1 T1 r1 => ?_⟩
        obtain ⟨v, r, rfl, r2, r3⟩ := r1.inv
        obtain ⟨v', r', rfl, r4, r5⟩ := r3.inv
        rw [r5.inv0, Rep.int_iff.mp r2, Rep.int_iff.mp r4]
        exact ⟨i, j, rfl, ⟨hb.1.1, hb.1.2, hb.2.1, hb.2.2⟩, q _ G1 H1 S1 T1 walk_range⟩
      · cases hf
    · cases hf

/-! ### for -/
def forD (g : Gx) (F : Sx) : List D → Env → Option Out
  | [], ρ => some (.nx ρ)
  | d :: ds, ρ => match g d ρ with
    | some ρ1 => (match F ρ1 with
      | some (.nx ρ2) => forD g F ds ρ2
      | some (.ct ρ2) => forD g F ds ρ2
      | some (.bk ρ2) => some (.nx ρ2)
      | some (.rt d) => some (.rt d)
      | none => none)
    | none => none
def sFor (f : Ax) (g : Gx) (F : Sx) : Sx := fun ρ => match f ρ with
  | some (ds, ρ1) => forD g F ds ρ1
  | none => none
theorem s_for {tg iter : Expr} {body : List Stmt} {f : Ax} {T : List Nat} {g : Gx} {F : Sx} (hp : PassesOwn (model X.prog X.w) X.A X.env X.xe) (hc : X.calm = true) (hi : QI X tg iter f) (hg : QG X tg T g) (hb : SB X own body F)
    (hs : ∀ x, foldedSetIterable iter X.env x = pure x := by intro _; rfl) : SX X own (.For tg iter body [] pos) (sFor f g F) := L2.PS.weak (ps_for hp hc hi hg hb hs) fun Dn σ H ⟨B, Bg, G, ρ, o, S, hf, q⟩ => by
  unfold sFor at hf
  split at hf
  · rename_i ds ρ1 h1
    refine ⟨B, Bg, G, ρ, ds, ρ1, S, h1, fun J G1 H1 S1 T1 wk => ?_⟩
    have q1 := q.mono T1.g
    refine ⟨fun i m σ H => ∃ G ρ, Sta B Bg G H ρ σ ∧ Sm G1 G ∧ m = ds.length - i ∧ i ≤ ds.length ∧ forD g F (ds.drop i) ρ = some o, ⟨ds.length, G1, ρ1, S1, fun _ _ z => z, by simp, Nat.zero_le _, by simpa using hf⟩, ?_⟩
    rintro i m σ2 H2 ⟨G2, ρ2, S2, g2, rfl, hi, h2⟩
    by_cases hlt : i < ds.length
    · obtain ⟨d, hd⟩ : ∃ d, ds[i]? = some d := ⟨_, List.getElem?_eq_getElem hlt⟩
      have hdr : ds.drop i = d :: ds.drop (i + 1) := by
        rw [List.drop_eq_getElem_cons hlt]
        rw [List.getElem?_eq_getElem hlt] at hd
        cases hd; rfl
      rw [hdr] at h2
      simp only [forD] at h2
      refine .inr ⟨wk.go i G2 H2 g2 S2.sub hlt, fun σ' H' => ∃ G ρ, Sta B Bg G H' ρ σ' ∧ Sm G1 G ∧ forD g F (ds.drop (i + 1)) ρ = some o, fun σ' H' ⟨G3, ρ3, S3, g3, h3⟩ => ⟨ds.length - (i + 1), by omega, G3, ρ3, S3, g3, rfl, hlt, h3⟩, fun x H' y => ?_⟩
      obtain ⟨G3, l3, r3⟩ := wk.yld i G2 H2 x H' d g2 S2.sub hd y
      split at h2
      · rename_i ρ3 hg3
        refine ⟨B, Bg, G3, ρ2, d, ρ3, S2.lay l3, r3, hg3, fun σ4 S4 _ _ _ => ?_⟩
        have g13 : Sm G1 G3 := fun b u z => l3.g b u (g2 b u z)
        split at h2
        · rename_i ρ4 hb4
          exact ⟨B, Bg, G3, ρ3, _, S4, hb4, fun σ5 G5 H5 S5 g5 => ⟨G5, ρ4, S5, fun b u z => g5 b u (g13 b u z), h2⟩⟩
        · rename_i ρ4 hb4
          exact ⟨B, Bg, G3, ρ3, _, S4, hb4, fun σ5 G5 H5 S5 g5 => ⟨G5, ρ4, S5, fun b u z => g5 b u (g13 b u z), h2⟩⟩
        · rename_i ρ4 hb4
          cases h2
          exact ⟨B, Bg, G3, ρ3, _, S4, hb4, fun σ5 G5 H5 S5 g5 => q1 σ5 G5 H5 S5 fun b u z => g5 b u (g13 b u z)⟩
        · rename_i d4 hb4
          cases h2
          exact ⟨B, Bg, G3, ρ3, _, S4, hb4, fun v G5 H5 r5 => q1 v G5 H5 r5⟩
        · cases h2
      · cases h2
    · have e : i = ds.length := by omega
      subst e
      rw [List.drop_length] at h2
      simp only [forD, Option.some.injEq] at h2
      subst h2
      exact .inl ⟨wk.stop _ G2 H2 g2 S2.sub (Nat.le_refl _), q1 σ2 G2 H2 S2 g2⟩
  · cases hf

/-! ### while -/
def whileD (c : Tx) (F : Sx) : Nat → Env → Option Out
  | 0, _ => none
  | n + 1, ρ => match c ρ with
    | some (true, ρ1) => (match F ρ1 with
      | some (.nx ρ2) => whileD c F n ρ2
      | some (.ct ρ2) => whileD c F n ρ2
      | some (.bk ρ2) => some (.nx ρ2)
      | some (.rt d) => some (.rt d)
      | none => none)
    | some (false, ρ1) => some (.nx ρ1)
    | none => none
theorem s_while (n : Nat) {c : Expr} {body : List Stmt} {fc : Tx} {F : Sx} (hp : PassesOwn (model X.prog X.w) X.A X.env X.xe) (hc : QT X c fc) (hb : SB X own body F) : SX X own (.While c body [] pos) (whileD fc F n) := L2.PS.weak (ps_while hp hc hb) fun Dn σ H ⟨B, Bg, G, ρ, o, S, hf, q⟩ => by
  refine ⟨fun m σ H => ∃ G1 ρ, Sta B Bg G1 H ρ σ ∧ Sm G G1 ∧ whileD fc F m ρ = some o, ⟨n, G, ρ, S, fun _ _ z => z, hf⟩, ?_⟩
  rintro m σ2 H2 ⟨G2, ρ2, S2, g2, h2⟩
  cases m with
  | zero => simp [whileD] at h2
  | succ m =>
    simp only [whileD] at h2
    split at h2
    · rename_i ρ3 h3
      refine ⟨B, Bg, G2, ρ2, true, ρ3, S2, h3, fun G3 H3 S3 T3 => ?_⟩
      refine iteT ?_
      have g3 : Sm G G3 := fun b u z => T3.g b u (g2 b u z)
      refine ⟨fun σ' H' => ∃ G1 ρ, Sta B Bg G1 H' ρ σ' ∧ Sm G G1 ∧ whileD fc F m ρ = some o, fun σ' H' z => ⟨m, Nat.lt_succ_self m, z⟩, ?_⟩
      split at h2
      · rename_i ρ4 hb4
        exact ⟨B, Bg, G3, ρ3, _, S3, hb4, fun σ5 G5 H5 S5 g5 => ⟨G5, ρ4, S5, fun b u z => g5 b u (g3 b u z), h2⟩⟩
      · rename_i ρ4 hb4
        exact ⟨B, Bg, G3, ρ3, _, S3, hb4, fun σ5 G5 H5 S5 g5 => ⟨G5, ρ4, S5, fun b u z => g5 b u (g3 b u z), h2⟩⟩
      · rename_i ρ4 hb4
        cases h2
        exact ⟨B, Bg, G3, ρ3, _, S3, hb4, fun σ5 G5 H5 S5 g5 => q σ5 G5 H5 S5 fun b u z => g5 b u (g3 b u z)⟩
      · rename_i d4 hb4
        cases h2
        exact ⟨B, Bg, G3, ρ3, _, S3, hb4, fun v G5 H5 r5 => q v G5 H5 r5⟩
      · cases h2
    · rename_i ρ3 h3
      cases h2
      refine ⟨B, Bg, G2, ρ2, false, ρ3, S2, h3, fun G3 H3 S3 T3 => ?_⟩
      refine iteF ?_
      exact q σ2 G3 H3 S3 fun b u z => T3.g b u (g2 b u z)
    · cases h2
end
end DL

/-! DL5: list comprehensions, walks over pairs. -/
namespace DL
open PySem PySem.Spec PyProof.Rows L2

/-- the slots of a block's own names forgotten -/
def unD (vs : List Nat) (ρ : Env) : Env := match vs with
  | [] => ρ
  | v :: vs => (unD vs ρ).set v .un
theorem unD_length : ∀ (vs : List Nat) (ρ : Env), (unD vs ρ).length = ρ.length
  | [], _ => rfl
  | v :: vs, ρ => by unfold unD; rw [List.length_set, unD_length vs ρ]
theorem unD_out {ρ : Env} {i : Nat} : ∀ {vs : List Nat}, i ∉ vs → (unD vs ρ)[i]? = ρ[i]?
  | [], _ => rfl
  | v :: vs, h => by
    simp only [List.mem_cons, not_or] at h
    unfold unD
    rw [List.getElem?_set_ne (Ne.symm h.1)]
    exact unD_out h.2
theorem unD_in {ρ : Env} {i : Nat} : ∀ {vs : List Nat}, i ∈ vs → (unD vs ρ)[i]? = if i < ρ.length then some .un else none
  | [], h => by cases h
  | v :: vs, h => by
    unfold unD
    by_cases hv : v = i
    · subst hv
      by_cases hl : v < ρ.length
      · rw [List.getElem?_set_self (by rw [unD_length]; exact hl), if_pos hl]
      · rw [List.getElem?_eq_none (by rw [List.length_set, unD_length]; omega), if_neg hl]
    · rw [List.getElem?_set_ne hv]
      exact unD_in (by
        rcases List.mem_cons.mp h with z | z
        · exact absurd z.symm hv
        · exact z)
theorem wipe_out' {σ : Ss} {i : Nat} : ∀ {vs : List Nat}, i ∉ vs → (wipe σ vs)[i]? = σ[i]?
  | [], _ => rfl
  | v :: vs, h => by
    simp only [List.mem_cons, not_or] at h
    unfold wipe
    rw [List.getElem?_set_ne (Ne.symm h.1)]
    exact wipe_out' h.2
theorem wipe_in {σ : Ss} {i : Nat} : ∀ {vs : List Nat}, i ∈ vs → (wipe σ vs)[i]? = if i < σ.length then some none else none
  | [], h => by cases h
  | v :: vs, h => by
    unfold wipe
    by_cases hv : v = i
    · subst hv
      by_cases hl : v < σ.length
      · rw [List.getElem?_set_self (by rw [wipe_length]; exact hl), if_pos hl]
      · rw [List.getElem?_eq_none (by rw [List.length_set, wipe_length]; omega), if_neg hl]
    · rw [List.getElem?_set_ne hv]
      exact wipe_in (by
        rcases List.mem_cons.mp h with z | z
        · exact absurd z.symm hv
        · exact z)
theorem wipe_ext {σ σ2 : Ss} {vs : List Nat} (h : ∀ j : Nat, j ∉ vs → σ2[j]? = σ[j]?) (hl : σ2.length = σ.length) : wipe σ2 vs = wipe σ vs := by
  apply List.ext_getElem?
  intro j
  by_cases hj : j ∈ vs
  · rw [wipe_in hj, wipe_in hj, hl]
  · rw [wipe_out' hj, wipe_out' hj]; exact h j hj
/-- none of these slots holds a thing of one's own -/
def noOw : List Nat → Env → Bool
  | [], _ => true
  | v :: vs, ρ => (match ρ[v]? with
    | some (.ow _) => false
    | _ => true) && noOw vs ρ
theorem noOw_ok {ρ : Env} : ∀ {vs : List Nat}, noOw vs ρ = true → ∀ (i : Nat) (d : D), i ∈ vs → ρ[i]? ≠ some (.ow d)
  | [], _, i, d, h => by cases h
  | v :: vs, h, i, d, hi => by
    simp only [noOw, Bool.and_eq_true] at h
    rcases List.mem_cons.mp hi with z | z
    · subst z
      intro e
      rw [e] at h
      exact Bool.noConfusion h.1
    · exact noOw_ok h.2 i d z
/-- behind a block: its own names' slots are as ahead of it -/
def backD : List Nat → Env → Env → Env
  | [], _, ρ => ρ
  | v :: vs, ρ0, ρ => (backD vs ρ0 ρ).set v (match ρ0[v]? with
    | some s => s
    | none => .un)
theorem backD_length : ∀ (vs : List Nat) (ρ0 ρ : Env), (backD vs ρ0 ρ).length = ρ.length
  | [], _, _ => rfl
  | v :: vs, ρ0, ρ => by unfold backD; rw [List.length_set, backD_length vs ρ0 ρ]
theorem backD_out {ρ0 ρ : Env} {i : Nat} : ∀ {vs : List Nat}, i ∉ vs → (backD vs ρ0 ρ)[i]? = ρ[i]?
  | [], _ => rfl
  | v :: vs, h => by
    simp only [List.mem_cons, not_or] at h
    unfold backD
    rw [List.getElem?_set_ne (Ne.symm h.1)]
    exact backD_out h.2
theorem backD_in {ρ0 ρ : Env} {i : Nat} (hl : ρ0.length = ρ.length) : ∀ {vs : List Nat}, i ∈ vs → (backD vs ρ0 ρ)[i]? = ρ0[i]?
  | [], h => by cases h
  | v :: vs, h => by
    unfold backD
    by_cases hv : v = i
    · subst hv
      by_cases hv' : v < ρ.length
      · rw [List.getElem?_set_self (by rw [backD_length]; exact hv'), List.getElem?_eq_getElem (by omega)]
      · rw [List.getElem?_eq_none (by rw [List.length_set, backD_length]; omega), List.getElem?_eq_none (by omega)]
    · rw [List.getElem?_set_ne hv]
      exact backD_in hl (by
        rcases List.mem_cons.mp h with z | z
        · exact absurd z.symm hv
        · exact z)

section
variable {B Bg G H G' H' : Hp} {ρ ρ' ρ0 : Env} {σ σ' : Ss} {vs : List Nat}
theorem Sta.wipe (S : Sta B Bg G H ρ σ) : Sta B Bg G H (unD vs ρ) (wipe σ vs) where
  old := S.old
  oldG := S.oldG
  sub := S.sub
  new := S.new
  len := by rw [unD_length, wipe_length]; exact S.len
  sl := fun i s e => by
    by_cases hi : i ∈ vs
    · rw [unD_in hi] at e
      split at e
      · rename_i hl
        cases e
        exact ⟨none, by rw [wipe_in hi, if_pos (by rw [← S.len]; exact hl)], trivial⟩
      · cases e
    · rw [unD_out hi] at e
      rw [wipe_out' hi]
      exact S.sl i s e
  dist := fun i j d e h1 h2 hij => by
    have n : ∀ i d, (unD vs ρ)[i]? = some (.ow d) → i ∉ vs ∧ ρ[i]? = some (.ow d) := fun i d h => by
      have hi : i ∉ vs := fun z => by
        rw [unD_in z] at h
        split at h <;> cases h
      rw [unD_out hi] at h
      exact ⟨hi, h⟩
    obtain ⟨n1, h1⟩ := n i d h1
    obtain ⟨n2, h2⟩ := n j e h2
    rw [wipe_out' n1, wipe_out' n2]
    exact S.dist i j d e h1 h2 hij
theorem Sta.wipeTo (S : Sta B Bg G H ρ σ') (h : ∀ j : Nat, j ∉ vs → σ'[j]? = (L2.wipe σ vs)[j]?) (hl : σ'.length = σ.length) : Sta B Bg G H (unD vs ρ) (L2.wipe σ vs) := by
  have e : L2.wipe σ' vs = L2.wipe σ vs := wipe_ext (fun j hj => by rw [h j hj, wipe_out' hj]) hl
  rw [← e]
  exact S.wipe
theorem Stp.cong (T : Stp σ G H ρ G' H' ρ') (h : ∀ (i : Nat) (d : D), ρ[i]? = some (.ow d) → σ'[i]? = σ[i]?) : Stp σ' G H ρ G' H' ρ' where
  g := T.g
  ow := T.ow
  keep := fun b o e n => T.keep b o e fun i d hi z => n i d hi (by rw [h i d hi]; exact z)
  dom := T.dom
  new := fun a e n => (T.new a e n).imp id fun ⟨i, d, hi, z⟩ => ⟨i, d, hi, by rw [h i d hi]; exact z⟩
/-- the slots ahead and behind as they are told: no more owned ones behind -/
theorem Stp.env {ρ1 ρ1' : Env} (T : Stp σ G H ρ G' H' ρ') (h : ∀ (i : Nat) (d : D), ρ[i]? = some (.ow d) → ∃ d', ρ1[i]? = some (.ow d')) (h' : ∀ (i : Nat) (d : D), ρ1'[i]? = some (.ow d) → ∃ d', ρ1[i]? = some (.ow d')) : Stp σ G H ρ1 G' H' ρ1' where
  g := T.g
  ow := h'
  keep := fun b o e n => T.keep b o e fun i d hi => by
    obtain ⟨d', hd⟩ := h i d hi
    exact n i d' hd
  dom := T.dom
  new := fun a e n => (T.new a e n).imp id fun ⟨i, d, hi, z⟩ => by
    obtain ⟨d', hd⟩ := h i d hi
    exact ⟨i, d', hd, z⟩
theorem unD_ow {i : Nat} {d : D} (h : (unD vs ρ)[i]? = some (.ow d)) : i ∉ vs ∧ ρ[i]? = some (.ow d) := by
  have hi : i ∉ vs := fun z => by
    rw [unD_in z] at h
    split at h <;> cases h
  rw [unD_out hi] at h
  exact ⟨hi, h⟩
/-- something that is nobody's is changed -/
theorem Sta.poke {a : Addr} {o : HO} (S : Sta B Bg G H ρ σ) (b : B a = none) (g : G a = none) (n : ∀ (i : Nat) (d : D), ρ[i]? = some (.ow d) → σ[i]? ≠ some (some (.ref a))) : Sta B Bg G (upd H a o) ρ σ where
  old := fun c u e => by rw [upd_ne (ne_of_none e b)]; exact S.old c u e
  oldG := S.oldG
  sub := fun c u e => by rw [upd_ne (ne_of_none e g)]; exact S.sub c u e
  new := S.new
  len := S.len
  sl := fun i s e => by
    obtain ⟨u, e1, k⟩ := S.sl i s e
    refine ⟨u, e1, ?_⟩
    cases s with
    | un => trivial
    | fz d => exact k
    | ow d =>
      obtain ⟨v, e2, r⟩ := k
      refine ⟨v, e2, r.mono (fun _ _ z => z) (fun c u' ec q => ?_) fun c ec => ?_⟩
      · have ne : c ≠ a := fun z => n i d e (by rw [e1, e2, ec, z])
        rw [upd_ne ne]; exact q
      · obtain ⟨a2, e3, _, g2, _⟩ := r.addr
        have : a2 = c := V.ref.inj (e3.symm.trans ec)
        rw [← this]; exact g2
  dist := S.dist
end

abbrev compG := Gx
/-- the turns of a comprehension -/
def compD (vs : List Nat) (g : Gx) (t : Tx) (f : Ex) : List D → Env → Option (List D × Env)
  | [], ρ => some ([], ρ)
  | x :: xs, ρ => match g x (unD vs ρ) with
    | some ρ1 => (match t ρ1 with
      | some (true, ρ2) => (match f ρ2 with
        | some (d, ρ3) => (match compD vs g t f xs ρ3 with
          | some (ds, ρ4) => some (d :: ds, ρ4)
          | none => none)
        | none => none)
      | some (false, ρ2) => compD vs g t f xs ρ2
      | none => none)
    | none => none
def eComp (vs : List Nat) (fi : Ax) (g : Gx) (t : Tx) (f : Ex) : Ex := fun ρ => match fi ρ with
  | some (xs, ρ1) => if xs.length ≤ 100000 ∧ noOw vs ρ1 = true then (match compD vs g t f xs ρ1 with
    | some (ds, ρ2) => some (.lst ds, backD vs ρ1 ρ2)
    | none => none) else none
  | none => none
def xYes : Tx := fun ρ => some (true, ρ)

theorem comp_read {own : List (Str × Nat)} {fi : Ax} {T : List Nat} {g : Gx} {t : Tx} {f : Ex} (hT : ∀ i ∈ T, i ∈ own.map (·.2)) : ∀ σ H Q, tO (eComp (own.map (·.2)) fi g t f) σ H Q → tLc (tI fi) (tG T g) (tT t) (tX f) (own.map (·.2)) σ H Q := by
  generalize own.map (·.2) = vs at hT ⊢
  intro σ H Q ⟨B, Bg, G, ρ, dd, ρe, S, hf, q⟩
  unfold eComp at hf
  split at hf
  · rename_i xs ρ1 h1
    split at hf
    · rename_i hc
      obtain ⟨hlen, hno⟩ := hc
      have hno' := noOw_ok hno
      split at hf
      · rename_i dsF ρF hF
        simp only [Option.some.injEq, Prod.mk.injEq] at hf
        obtain ⟨rfl, rfl⟩ := hf
        refine ⟨B, Bg, G, ρ, xs, ρ1, S, h1, fun J G1 H1 S1 T1 wk da hD => ?_⟩
        have bD : B da = none := none_of_sm S1.old hD
        have gD : G1 da = none := sub_none S1.sub hD
        have hl1 : ρ1.length = σ.length := S1.len
        -- the state between two turns
        refine ⟨fun i m H => ∃ G ρ acc av rest, Sta B Bg G H (unD vs ρ) (wipe σ vs) ∧ Stp (wipe σ vs) G1 H1 (unD vs ρ1) G H (unD vs ρ) ∧ ρ.length = ρ1.length ∧ H da = some (.lst av) ∧ Reps G acc av ∧ G da = none ∧ acc.length ≤ i ∧
          compD vs g t f (xs.drop i) ρ = some (rest, ρF) ∧ acc ++ rest = dsF ∧ m = xs.length - i ∧ i ≤ xs.length, ⟨xs.length, G1, ρ1, [], [], dsF, ?_, ?_, rfl, upd_same, .nil, gD, Nat.zero_le _, by simpa using hF, rfl, by simp, Nat.zero_le _⟩, ?_⟩
        · exact (S1.grow (fun _ _ z => z) (sm_upd hD) (fun b u z => sm_upd hD b u (S1.sub b u z)) fun _ e n => absurd e n).wipe
        · exact .same (fun _ _ z => z) (sm_upd hD) fun _ e n => absurd e n
        rintro i m H2 ⟨G2, ρ2, acc, av, rest, S2, T2, hl2, e2, r2, g2, ha, hc2, hd2, rfl, hi⟩
        have lenσ : (wipe σ vs).length = σ.length := wipe_length σ vs
        by_cases hlt : i < xs.length
        · obtain ⟨x, hx⟩ : ∃ x, xs[i]? = some x := ⟨_, List.getElem?_eq_getElem hlt⟩
          have hdr : xs.drop i = x :: xs.drop (i + 1) := by
            rw [List.drop_eq_getElem_cons hlt]
            rw [List.getElem?_eq_getElem hlt] at hx
            cases hx; rfl
          rw [hdr] at hc2
          simp only [compD] at hc2
          refine .inr ⟨wk.go i G2 H2 T2.g S2.sub hlt, fun H => ∃ G ρ acc av rest, Sta B Bg G H (unD vs ρ) (wipe σ vs) ∧ Stp (wipe σ vs) G1 H1 (unD vs ρ1) G H (unD vs ρ) ∧ ρ.length = ρ1.length ∧ H da = some (.lst av) ∧ Reps G acc av ∧ G da = none ∧ acc.length ≤ i + 1 ∧
            compD vs g t f (xs.drop (i + 1)) ρ = some (rest, ρF) ∧ acc ++ rest = dsF, fun H' ⟨G', ρ', acc', av', rest', z1, z2, z3, z4, z5, z6, z7, z8, z9⟩ => ⟨xs.length - (i + 1), by omega, G', ρ', acc', av', rest', z1, z2, z3, z4, z5, z6, z7, z8, z9, rfl, hlt⟩, fun xv H3 y => ?_⟩
          obtain ⟨G3, l3, r3⟩ := wk.yld i G2 H2 xv H3 x T2.g S2.sub hx y
          have S3 := S2.lay l3
          have e3 : H3 da = some (.lst av) := l3.h _ _ e2
          have g3 : G3 da = none := by
            cases z : G3 da with
            | none => rfl
            | some u =>
              have := l3.new da g2 (by rw [z]; simp)
              rw [e2] at this; cases this
          split at hc2
          · rename_i ρ3 hg3
            refine ⟨B, Bg, G3, unD vs ρ2, x, ρ3, S3, r3, hg3, fun σ4 S4 l4 k4 n4 => ?_⟩
            have kσ : ∀ j : Nat, j ∉ vs → σ4[j]? = (wipe σ vs)[j]? := fun j hj => (k4 j fun z => hj (hT j z)).1
            have kρ : ∀ j : Nat, j ∉ T → ρ3[j]? = (unD vs ρ2)[j]? := fun j hj => (k4 j hj).2
            have lσ : σ4.length = σ.length := l4.trans lenσ
            have ow3 : ∀ (j : Nat) (d : D), ρ3[j]? = some (.ow d) → j ∉ vs ∧ (unD vs ρ2)[j]? = some (.ow d) := fun j d e => by
              have hj : j ∉ T := fun z => n4 j d z e
              rw [kρ j hj] at e
              exact ⟨(unD_ow e).1, e⟩
            -- a turn's step from the state ahead of it
            have T3 : Stp (wipe σ vs) G1 H1 (unD vs ρ1) G3 H3 (unD vs ρ2) := T2.trans (.lay l3)
            have back : ∀ {G' H' : Hp} {ρ' : Env}, Stp σ4 G3 H3 ρ3 G' H' ρ' → Stp (wipe σ vs) G1 H1 (unD vs ρ1) G' H' (unD vs ρ') := fun {G' H' ρ'} T => by
              refine T3.trans ((T.cong (σ' := wipe σ vs) fun j d e => (kσ j (ow3 j d e).1).symm).env (fun j d e => ⟨d, (ow3 j d e).2⟩) fun j d e => ?_)
              obtain ⟨_, e2⟩ := unD_ow e
              obtain ⟨d0, e3⟩ := T.ow j d e2
              exact ⟨d0, (ow3 j d0 e3).2⟩
            have keepD : ∀ {G' H' : Hp} {ρ' : Env}, Stp σ4 G3 H3 ρ3 G' H' ρ' → H' da = some (.lst av) ∧ G' da = none := fun {G' H' ρ'} T => by
              have no : ∀ (j : Nat) (d : D), ρ3[j]? = some (.ow d) → σ4[j]? ≠ some (some (.ref da)) := fun j d e z => by
                obtain ⟨hj, e2⟩ := ow3 j d e
                rw [kσ j hj] at z
                obtain ⟨d0, e3⟩ := T2.ow j d e2
                obtain ⟨o5, e5, k5⟩ := S1.wipe.sl j _ e3
                obtain ⟨v5, e6, r5⟩ := k5
                obtain ⟨a5, e7, _, _, h5⟩ := r5.addr
                rw [z, e6, e7] at e5
                cases e5
                exact h5 hD
              refine ⟨T.keep da _ e3 no, ?_⟩
              cases z : G' da with
              | none => rfl
              | some u =>
                rcases T.new da g3 (by rw [z]; simp) with y | ⟨j, d, y1, y2⟩
                · rw [e3] at y; cases y
                · exact absurd y2 (no j d y1)
            have len' : ∀ {G' H' : Hp} {ρ' : Env}, Sta B Bg G' H' ρ' σ4 → ρ'.length = ρ1.length := fun S' => by
              rw [S'.len, lσ, hl1]
            refine ⟨by rw [← lenσ] at lσ; exact wipe_ext (fun j hj => by rw [kσ j hj, wipe_out' hj]) (lσ.trans lenσ), ?_⟩
            split at hc2
            · rename_i ρ4 ht4
              refine ⟨B, Bg, G3, ρ3, true, ρ4, S4, ht4, fun G4 H4 S5 T4 => ?_⟩
              refine iteT ?_
              split at hc2
              · rename_i d5 ρ5 hf5
                split at hc2
                · rename_i ds6 ρ6 hc6
                  simp only [Option.some.injEq, Prod.mk.injEq] at hc2
                  obtain ⟨rfl, rfl⟩ := hc2
                  refine ⟨B, Bg, G4, ρ4, d5, ρ5, S5, hf5, fun v5 G5 H5 S6 T5 r5 => ?_⟩
                  have T45 := T4.trans T5
                  obtain ⟨e5, g5⟩ := keepD T45
                  have T15 := back T45
                  have lenAcc : acc.length = av.length := r2.length
                  refine ⟨av, e5, ?_, G5, ρ5, acc ++ [d5], av ++ [v5], ds6, ?_, ?_, len' S6, upd_same, ?_, g5, by simp; omega, hc6, by simpa using hd2⟩
                  · have : (sizeLine : Nat) = 16777216 := sizeLine_eq
                    omega
                  · refine (S6.wipeTo kσ lσ).poke bD g5 fun j d e z => ?_
                    obtain ⟨hj, e2⟩ := unD_ow e
                    obtain ⟨d0, e3⟩ := T15.ow j d e
                    obtain ⟨o7, e7, k7⟩ := S1.wipe.sl j _ e3
                    obtain ⟨v7, e8, r7⟩ := k7
                    obtain ⟨a7, e9, _, _, h7⟩ := r7.addr
                    rw [z, e8, e9] at e7
                    cases e7
                    exact h7 hD
                  · refine ⟨T15.g, T15.ow, fun b o e n => ?_, fun b e z => ?_, T15.new⟩
                    · rw [upd_ne (ne_of_none e hD)]; exact T15.keep b o e n
                    · by_cases hb : b = da
                      · subst hb; rw [upd_same] at z; cases z
                      · rw [upd_ne hb] at z; exact T15.dom b e z
                  · have g25 : Sm G2 G5 := fun b u z => T45.g b u (l3.g b u z)
                    exact (r2.mono g25).append (.cons r5 .nil)
                · cases hc2
              · cases hc2
            · rename_i ρ4 ht4
              refine ⟨B, Bg, G3, ρ3, false, ρ4, S4, ht4, fun G4 H4 S5 T4 => ?_⟩
              refine iteF ?_
              obtain ⟨e5, g5⟩ := keepD T4
              have g24 : Sm G2 G4 := fun b u z => T4.g b u (l3.g b u z)
              exact ⟨G4, ρ4, acc, av, rest, S5.wipeTo kσ lσ, back T4, len' S5, e5, r2.mono g24, g5, by omega, hc2, hd2⟩
            · cases hc2
          · cases hc2
        · have ei : i = xs.length := by omega
          subst ei
          rw [List.drop_length] at hc2
          simp only [compD, Option.some.injEq, Prod.mk.injEq] at hc2
          obtain ⟨rfl, rfl⟩ := hc2
          rw [List.append_nil] at hd2
          subst hd2
          refine .inl ⟨wk.stop _ G2 H2 T2.g S2.sub (Nat.le_refl _), ?_⟩
          -- behind the block
          have Se : Sta B Bg G2 H2 (backD vs ρ1 ρ2) σ := by
            refine ⟨S2.old, S2.oldG, S2.sub, S2.new, by rw [backD_length, hl2, hl1], fun j s e => ?_, fun j k d1 d2 q1 q2 hjk => ?_⟩
            · by_cases hj : j ∈ vs
              · rw [backD_in hl2.symm hj] at e
                obtain ⟨o, e1, k⟩ := S1.sl j s e
                refine ⟨o, e1, ?_⟩
                cases s with
                | un => trivial
                | fz d => obtain ⟨v, e2, r⟩ := k; exact ⟨v, e2, r.mono T2.g⟩
                | ow d => exact absurd e (hno' j d hj)
              · rw [backD_out hj] at e
                have e' : (unD vs ρ2)[j]? = some s := by rw [unD_out hj]; exact e
                obtain ⟨o, e1, k⟩ := S2.sl j s e'
                rw [wipe_out' hj] at e1
                exact ⟨o, e1, k⟩
            · have n : ∀ j d, (backD vs ρ1 ρ2)[j]? = some (.ow d) → j ∉ vs ∧ (unD vs ρ2)[j]? = some (.ow d) := fun j d e => by
                have hj : j ∉ vs := fun z => by
                  rw [backD_in hl2.symm z] at e
                  exact hno' j d z e
                rw [backD_out hj] at e
                exact ⟨hj, by rw [unD_out hj]; exact e⟩
              obtain ⟨n1, q1⟩ := n j d1 q1
              obtain ⟨n2, q2⟩ := n k d2 q2
              have := S2.dist j k d1 d2 q1 q2 hjk
              rw [wipe_out' n1, wipe_out' n2] at this
              exact this
          have Te : Stp σ G1 H1 ρ1 G2 H2 (backD vs ρ1 ρ2) := by
            refine (T2.cong (σ' := σ) fun j d e => (wipe_out' (unD_ow e).1).symm).env (fun j d e => ⟨d, (unD_ow e).2⟩) fun j d e => ?_
            have hj : j ∉ vs := fun z => by
              rw [backD_in hl2.symm z] at e
              exact hno' j d z e
            rw [backD_out hj] at e
            have e' : (unD vs ρ2)[j]? = some (.ow d) := by rw [unD_out hj]; exact e
            obtain ⟨d0, e0⟩ := T2.ow j d e'
            exact ⟨d0, (unD_ow e0).2⟩
          exact q (.ref da) G2 H2 Se (T1.trans Te) ⟨da, rfl, bD, g2, av, e2, r2⟩ fun a ea => by
            cases ea
            exact stp_none T1 hD
      · cases hf
    · cases hf
  · cases hf
end DL

/-! DL6: comprehensions as rules, things of one's own that are changed, defs, built-ins. -/
namespace DL
open PySem PySem.Spec PyProof.Rows L2
section
variable {X : Cx} {own : Bool} {e a b : Expr} {pos : Pos}

/-! ### comprehensions -/
section
variable {elt tg iter : Expr} {ifs : List Expr} {scope : Scope} {on : List (Str × Nat)} {fi : Ax} {T : List Nat} {g : Gx} {t : Tx} {f : Ex}
theorem ts_nil : PTs X [] (tT xYes) := ⟨fun pins s σ H Q I h => pts_nil.run pins s σ H Q I (by
  obtain ⟨B, Bg, G, ρ, b, ρ', S, hf, q⟩ := h
  simp only [xYes, Option.some.injEq, Prod.mk.injEq] at hf
  obtain ⟨rfl, rfl⟩ := hf
  exact q G H S .refl)⟩
theorem ts_one {c : Expr} (h : QT X c t) : PTs X [c] (tT t) := pts_one h
theorem n_comp (on : List (Str × Nat)) (hc : X.calm = true) (hN : X.N.Nodup) (hi : QI X tg iter fi) (ok : BlkOk X.N X.env.scope scope on)
    (hg : ∀ (s : Shared) (H : Hp) (C : Addr) (cl : List (Str × Addr)) (fp : List Addr), QG (X.blk s H scope (compEnvC scope cl C X.env) fp) tg T g)
    (ht : ∀ (s : Shared) (H : Hp) (C : Addr) (cl : List (Str × Addr)) (fp : List Addr), PTs (X.blk s H scope (compEnvC scope cl C X.env) fp) ifs (tT t))
    (he : ∀ (s : Shared) (H : Hp) (C : Addr) (cl : List (Str × Addr)) (fp : List Addr), PX (X.blk s H scope (compEnvC scope cl C X.env) fp) elt f)
    (hT : ∀ i ∈ T, i ∈ on.map (·.2) := by decide) (hs : ∀ x, foldedSetIterable iter X.env x = pure x := by intro _; rfl) : PN X (.ListComp elt [⟨tg, iter, ifs, 0⟩] scope pos) (eComp (on.map (·.2)) fi g t f) :=
  L2.PE.weak (pe_lc hc hN hi ok hg ht he hs) (comp_read hT)
theorem s_comp (i : Nat) {y : Str} {py spos : Pos} (on : List (Str × Nat)) (hc : X.calm = true) (hN : X.N.Nodup) (hi : QI X tg iter fi) (ok : BlkOk X.N X.env.scope scope on)
    (hg : ∀ (s : Shared) (H : Hp) (C : Addr) (cl : List (Str × Addr)) (fp : List Addr), QG (X.blk s H scope (compEnvC scope cl C X.env) fp) tg T g)
    (ht : ∀ (s : Shared) (H : Hp) (C : Addr) (cl : List (Str × Addr)) (fp : List Addr), PTs (X.blk s H scope (compEnvC scope cl C X.env) fp) ifs (tT t))
    (he : ∀ (s : Shared) (H : Hp) (C : Addr) (cl : List (Str × Addr)) (fp : List Addr), PX (X.blk s H scope (compEnvC scope cl C X.env) fp) elt f)
    (hsw : swapsWith (.ListComp elt [⟨tg, iter, ifs, 0⟩] scope pos) (some (.Name y py)) spos.line X.env = pure true)
    (hT : ∀ i ∈ T, i ∈ on.map (·.2) := by decide) (hy : X.N[i]? = some y := by rfl) (hyl : X.env.scope.names.lookup y = some .local := by rfl) (hs : ∀ x, foldedSetIterable iter X.env x = pure x := by intro _; rfl) :
    SX X own (.Assign [.Name y py] (.ListComp elt [⟨tg, iter, ifs, 0⟩] scope pos) spos) (sSetN i (eComp (on.map (·.2)) fi g t f)) :=
  L2.PS.weak (ps_setLc hc hN hy hyl hsw hi ok hg ht he hs) fun Dn σ H h => by
    have h2 := setN_read Dn σ H h
    exact comp_read hT σ H _ h2
theorem freeze_read {i : Nat} {f : Ex} {t : TE} (ht : ∀ σ H Q, tO f σ H Q → t σ H Q) : ∀ Dn σ H, tS own (sSet i f) Dn σ H → tAsg t (gName i) Dn σ H := fun Dn σ H h => by
  refine ht σ H _ ?_
  obtain ⟨B, Bg, G, ρ, d, ρ', S, hf, q⟩ := set_read Dn σ H h
  exact ⟨B, Bg, G, ρ, d, ρ', S, hf, fun v G' H' S' T o n => by
    obtain ⟨G'', S2, T2, r⟩ := freezeNew S' T o n S
    exact q v G'' H' S2 T2 r⟩
theorem s_compF (i : Nat) {y : Str} {py spos : Pos} (on : List (Str × Nat)) (hc : X.calm = true) (hN : X.N.Nodup) (hi : QI X tg iter fi) (ok : BlkOk X.N X.env.scope scope on)
    (hg : ∀ (s : Shared) (H : Hp) (C : Addr) (cl : List (Str × Addr)) (fp : List Addr), QG (X.blk s H scope (compEnvC scope cl C X.env) fp) tg T g)
    (ht : ∀ (s : Shared) (H : Hp) (C : Addr) (cl : List (Str × Addr)) (fp : List Addr), PTs (X.blk s H scope (compEnvC scope cl C X.env) fp) ifs (tT t))
    (he : ∀ (s : Shared) (H : Hp) (C : Addr) (cl : List (Str × Addr)) (fp : List Addr), PX (X.blk s H scope (compEnvC scope cl C X.env) fp) elt f)
    (hsw : swapsWith (.ListComp elt [⟨tg, iter, ifs, 0⟩] scope pos) (some (.Name y py)) spos.line X.env = pure true)
    (hT : ∀ i ∈ T, i ∈ on.map (·.2) := by decide) (hy : X.N[i]? = some y := by rfl) (hyl : X.env.scope.names.lookup y = some .local := by rfl) (hs : ∀ x, foldedSetIterable iter X.env x = pure x := by intro _; rfl) :
    SX X own (.Assign [.Name y py] (.ListComp elt [⟨tg, iter, ifs, 0⟩] scope pos) spos) (sSet i (eComp (on.map (·.2)) fi g t f)) :=
  L2.PS.weak (ps_setLc hc hN hy hyl hsw hi ok hg ht he hs) (freeze_read (comp_read hT))
end

/-! ### walks over pairs -/
def enumD (ds : List D) : List D := ds.zipIdx.map fun p => .tup [.int (p.2 : Int), p.1]
def zipD (ds es : List D) : List D := (ds.zip es).map fun p => .tup [p.1, p.2]
theorem walk_enum {K : PySem.W.Frag} {G : Hp} {a : Addr} {vs : List V} {ds : List D} (ga : G a = some (.lst vs)) (r : Reps G ds vs) : Walk (Ite K a) G (enumD ds) where
  go := fun i G2 H2 g s hi => by
    have hl := r.length
    have hi' : i < ds.length := by simpa [enumD] using hi
    exact ⟨vs, vs[i], .of (s _ _ (g _ _ ga)), List.getElem?_eq_getElem (by omega)⟩
  yld := fun i G2 H2 x H3 d g s hd ⟨T, x', ex, nT, eH, h⟩ => by
    subst ex eH
    unfold enumD at hd
    rw [List.getElem?_map, List.getElem?_zipIdx] at hd
    cases hd' : ds[i]? with
    | none => rw [hd'] at hd; cases hd
    | some d0 =>
      rw [hd'] at hd
      simp only [Option.map_some, Nat.zero_add, Option.some.injEq] at hd
      subst hd
      obtain ⟨v, h1, h2⟩ := r.get hd'
      have e := h vs (.of (s _ _ (g _ _ ga)))
      rw [h1] at e; cases e
      have l := Lay.one (o := .tup [.int (i : Nat), x']) s nT
      exact ⟨_, l, Rep.tup_iff.mpr ⟨T, _, rfl, upd_same, .cons .int (.cons ((h2.mono g).mono l.g) .nil)⟩⟩
  stop := fun i G2 H2 g s hi => ⟨vs, .of (s _ _ (g _ _ ga)), by rw [← r.length]; simpa [enumD] using hi⟩
theorem walk_zip {K : PySem.W.Frag} {G : Hp} {a b : Addr} {vs us : List V} {ds es : List D} (ga : G a = some (.lst vs)) (r : Reps G ds vs) (gb : G b = some (.lst us)) (r2 : Reps G es us) : Walk (Itz K a b) G (zipD ds es) where
  go := fun i G2 H2 g s hi => by
    have hl := r.length
    have hl2 := r2.length
    have hi' : i < ds.length ∧ i < es.length := by
      simp only [zipD, List.length_map, List.length_zip] at hi
      omega
    exact ⟨vs, us, vs[i], us[i], .of (s _ _ (g _ _ ga)), .of (s _ _ (g _ _ gb)), List.getElem?_eq_getElem (by omega), List.getElem?_eq_getElem (by omega)⟩
  yld := fun i G2 H2 x H3 d g s hd ⟨T, x', y', ex, nT, eH, h, h'⟩ => by
    subst ex eH
    unfold zipD at hd
    rw [List.getElem?_map] at hd
    cases hd' : (ds.zip es)[i]? with
    | none => rw [hd'] at hd; cases hd
    | some p =>
      rw [hd'] at hd
      simp only [Option.map_some, Option.some.injEq] at hd
      subst hd
      obtain ⟨h3, h4⟩ := List.getElem?_zip_eq_some.mp hd'
      obtain ⟨v, h1, h2⟩ := r.get h3
      obtain ⟨u, h5, h6⟩ := r2.get h4
      have e := h vs (.of (s _ _ (g _ _ ga)))
      rw [h1] at e; cases e
      have e := h' us (.of (s _ _ (g _ _ gb)))
      rw [h5] at e; cases e
      have l := Lay.one (o := .tup [x', y']) s nT
      exact ⟨_, l, Rep.tup_iff.mpr ⟨T, _, rfl, upd_same, .cons ((h2.mono g).mono l.g) (.cons ((h6.mono g).mono l.g) .nil)⟩⟩
  stop := fun i G2 H2 g s hi => ⟨vs, us, .of (s _ _ (g _ _ ga)), .of (s _ _ (g _ _ gb)), by
    have hl := r.length
    have hl2 := r2.length
    simp only [zipD, List.length_map, List.length_zip] at hi
    omega⟩
def iEnumF (f : Ax) : Ax := fun ρ => match f ρ with
  | some ([.lst ds], ρ1) => some (enumD ds, ρ1)
  | _ => none
def iZipF (f : Ax) : Ax := fun ρ => match f ρ with
  | some ([.lst ds, .lst es], ρ1) => some (zipD ds es, ρ1)
  | _ => none
theorem i_enum {e : Expr} {f : Ax} {p tpos : Pos} {elts : List Expr} {kk : Nat} (hg : Gl X "enumerate") (hm : X.mg "enumerate" = none) (ha : QA X [e] f) (hs : starEach [e] X.env = [(false, eval e X.env)] := by rfl) :
    QI X (.Tuple elts kk tpos) (.Call (.Name "enumerate" p) [e] [] pos) (iEnumF f) := L2.PI.weak (pi_enum hg hm ha hs) fun σ H R ⟨B, Bg, G, ρ, ds, ρ', S, hf, q⟩ => by
  unfold iEnumF at hf
  split at hf
  · rename_i ds' ρ1 h1
    cases hf
    refine ⟨B, Bg, G, ρ, _, _, S, h1, fun vs G1 H1 S1 T1 r1 => ?_⟩
    obtain ⟨v, r, rfl, r2, r3⟩ := r1.inv
    obtain ⟨a, us, rfl, ga, rs⟩ := Rep.lst_iff.mp r2
    rw [r3.inv0]
    exact ⟨a, us, rfl, .of (S1.sub _ _ ga), q _ G1 H1 S1 T1 (walk_enum ga rs)⟩
  · cases hf
theorem i_zip {e e2 : Expr} {f : Ax} {p tpos : Pos} {elts : List Expr} {kk : Nat} (hg : Gl X "zip") (hm : X.mg "zip" = none) (ha : QA X [e, e2] f)
    (hs : starEach [e, e2] X.env = (false, eval e X.env) :: starEach [e2] X.env := by rfl) (hpl : (backTo pos (starEach [e2] X.env)).any (·.1) = false := by rfl) :
    QI X (.Tuple elts kk tpos) (.Call (.Name "zip" p) [e, e2] [] pos) (iZipF f) := L2.PI.weak (pi_zip hg hm ha hs hpl) fun σ H R ⟨B, Bg, G, ρ, ds, ρ', S, hf, q⟩ => by
  unfold iZipF at hf
  split at hf
  · rename_i ds' es' ρ1 h1
    cases hf
    refine ⟨B, Bg, G, ρ, _, _, S, h1, fun vs G1 H1 S1 T1 r1 => ?_⟩
    obtain ⟨v, r, rfl, r2, r3⟩ := r1.inv
    obtain ⟨v', r', rfl, r4, r5⟩ := r3.inv
    obtain ⟨a, us, rfl, ga, rs⟩ := Rep.lst_iff.mp r2
    obtain ⟨b, ws, rfl, gb, rt⟩ := Rep.lst_iff.mp r4
    rw [r5.inv0]
    exact ⟨a, b, us, ws, rfl, .of (S1.sub _ _ ga), .of (S1.sub _ _ gb), q _ G1 H1 S1 T1 (walk_zip ga rs gb rt)⟩
  · cases hf

/-! ### things of one's own are changed -/
theorem Sta.ow_at {B Bg G H : Hp} {ρ : Env} {σ : Ss} {i : Nat} {d : D} (S : Sta B Bg G H ρ σ) (e : ρ[i]? = some (.ow d)) : ∃ a o, σ[i]? = some (some (.ref a)) ∧ B a = none ∧ G a = none ∧ H a = some o ∧ Holds G a d o := by
  obtain ⟨o, e1, v, e2, a, ea, ba, ga, m⟩ := S.sl i _ e
  subst e2 ea
  cases d <;> simp only at m
  · obtain ⟨vs, m, r⟩ := m; exact ⟨a, _, e1, ba, ga, m, vs, rfl, r⟩
  · obtain ⟨vs, m, r⟩ := m; exact ⟨a, _, e1, ba, ga, m, vs, rfl, r⟩
  · exact ⟨a, _, e1, ba, ga, m.2, m.1, rfl⟩
theorem own_write {B Bg G H : Hp} {ρ : Env} {σ : Ss} {i : Nat} {d d' : D} {a : Addr} {o : HO} (S : Sta B Bg G H ρ σ) (e : ρ[i]? = some (.ow d)) (ea : σ[i]? = some (some (.ref a))) (c : Holds G a d' o) :
    Sta B Bg G (upd H a o) (ρ.set i (.ow d')) σ ∧ Stp σ G H ρ G (upd H a o) (ρ.set i (.ow d')) := by
  obtain ⟨a', o', e1, ba, ga, ha, _⟩ := S.ow_at e
  rw [ea] at e1; cases e1
  have hil : i < ρ.length := by
    rcases Nat.lt_or_ge i ρ.length with q | q
    · exact q
    · rw [List.getElem?_eq_none q] at e; cases e
  refine ⟨⟨fun b u q => by rw [upd_ne (ne_of_none q ba)]; exact S.old b u q, S.oldG, fun b u q => by rw [upd_ne (ne_of_none q ga)]; exact S.sub b u q, S.new, by simpa using S.len, fun j s q => ?_, fun j k d1 d2 q1 q2 hjk => ?_⟩, ⟨fun _ _ z => z, fun j d1 q => ?_, fun b u q n => ?_, fun b q z => ?_, fun b q z => absurd q z⟩⟩
  · by_cases hj : j = i
    · subst hj
      rw [List.getElem?_set_self hil] at q; cases q
      exact ⟨_, ea, _, rfl, .mk' ba ga upd_same c⟩
    · rw [List.getElem?_set_ne (Ne.symm hj)] at q
      obtain ⟨u, e2, k⟩ := S.sl j s q
      refine ⟨u, e2, ?_⟩
      cases s with
      | un => trivial
      | fz d0 => exact k
      | ow d0 =>
        obtain ⟨v, e3, r⟩ := k
        refine ⟨v, e3, r.mono (fun _ _ z => z) (fun b u' eb q' => ?_) fun b eb => ?_⟩
        · have ne : b ≠ a := fun z => S.dist j i _ _ q e hj (by rw [e2, e3, eb, ea, z])
          rw [upd_ne ne]; exact q'
        · obtain ⟨a2, e4, _, g2, _⟩ := r.addr
          have : a2 = b := V.ref.inj (e4.symm.trans eb)
          rw [← this]; exact g2
  · have n : ∀ (j : Nat) (d1 : D), (ρ.set i (.ow d'))[j]? = some (.ow d1) → ∃ d0, ρ[j]? = some (.ow d0) := fun j d1 q => by
      by_cases hj : j = i
      · subst hj; exact ⟨d, e⟩
      · rw [List.getElem?_set_ne (Ne.symm hj)] at q; exact ⟨d1, q⟩
    obtain ⟨d3, q3⟩ := n j d1 q1
    obtain ⟨d4, q4⟩ := n k d2 q2
    exact S.dist j k d3 d4 q3 q4 hjk
  · by_cases hj : j = i
    · subst hj; exact ⟨d, e⟩
    · rw [List.getElem?_set_ne (Ne.symm hj)] at q; exact ⟨d1, q⟩
  · have ne : b ≠ a := fun z => n i d e (by rw [ea, z])
    rw [upd_ne ne]; exact q
  · by_cases hb : b = a
    · subst hb; rw [upd_same] at z; cases z
    · rw [upd_ne hb] at z; exact q z
/-- slot i, a list of one's own, is changed to what h makes of it and the arguments; c: what is handed back -/
def eMt (i : Nat) (h : List D → List D → Option (D × List D)) (f : Ax) : Ex := fun ρ => match ρ[i]? with
  | some (.ow (.lst _)) => (match f ρ with
    | some (es, ρ1) => (match ρ1[i]? with
      | some (.ow (.lst ds)) => (match h ds es with
        | some (c, ds') => some (c, ρ1.set i (.ow (.lst ds')))
        | none => none)
      | _ => none)
    | none => none)
  | _ => none
/-- what a method of a list does -/
def OkMt (r : V → List V → Hp → VK → Prop) (h : List D → List D → Option (D × List D)) : Prop := ∀ (G H : Hp) (ds es ds' : List D) (c : D) (a : Addr) (vs us : List V) (Q : VK), Sm G H → H a = some (.lst vs) → G a = none → Reps G ds vs → Reps G es us → h ds es = some (c, ds') →
  (∀ v ws, Rep G c v → Reps G ds' ws → Q v (upd H a (.lst ws))) → r (.ref a) us H Q
theorem mt_read {i : Nat} {K : PySem.W.Frag} {r : V → List V → Hp → VK → Prop} {h : List D → List D → Option (D × List D)} {f : Ax} (ok : OkMt r h) : ∀ σ H Q, tX (eMt i h f) σ H Q → tBM K "list" r (tVar i) (tL f) σ H Q := fun σ H Q ⟨B, Bg, G, ρ, c, ρ', S, hf, q⟩ => by
  unfold eMt at hf
  split at hf
  · rename_i ds0 h0
    split at hf
    · rename_i es ρ1 h1
      split at hf
      · rename_i ds h2
        split at hf
        · rename_i c' ds' h3
          simp only [Option.some.injEq, Prod.mk.injEq] at hf
          obtain ⟨rfl, rfl⟩ := hf
          obtain ⟨a, o, e1, ba, ga, ha, vs0, rfl, r0⟩ := S.ow_at h0
          refine ⟨.ref a, e1, .inl ⟨rfl, vs0, .of ha⟩, B, Bg, G, ρ, es, ρ1, S, h1, fun us G1 H1 S1 T1 r1 => ?_⟩
          obtain ⟨a', o', e1', ba', ga', ha', vs, rfl, r2⟩ := S1.ow_at h2
          rw [e1] at e1'; cases e1'
          refine ok G1 H1 ds es ds' _ a vs us Q S1.sub ha' ga' r2 r1 h3 fun v ws rv rw' => ?_
          obtain ⟨S2, T2⟩ := own_write (d' := .lst ds') (o := .lst ws) S1 h2 e1 ⟨ws, rfl, rw'⟩
          exact q v G1 _ S2 (T1.trans T2) rv
        · cases hf
      · cases hf
    · cases hf
  · cases hf
theorem mt_read0 {i : Nat} {K : PySem.W.Frag} {r : V → List V → Hp → VK → Prop} {h : List D → List D → Option (D × List D)} (ok : OkMt r h) : ∀ σ H Q, tX (eMt i h aNil) σ H Q → tBM0 K "list" r (tVar i) σ H Q := fun σ H Q ⟨B, Bg, G, ρ, c, ρ', S, hf, q⟩ => by
  unfold eMt aNil at hf
  split at hf
  · rename_i ds0 h0
    simp only [h0] at hf
    split at hf
    · rename_i c' ds' h3
      simp only [Option.some.injEq, Prod.mk.injEq] at hf
      obtain ⟨rfl, rfl⟩ := hf
      obtain ⟨a, o, e1, ba, ga, ha, vs0, rfl, r0⟩ := S.ow_at h0
      refine ⟨.ref a, e1, .inl ⟨rfl, vs0, .of ha⟩, ok G H ds0 [] ds' _ a vs0 [] Q S.sub ha ga r0 .nil h3 fun v ws rv rw' => ?_⟩
      obtain ⟨S2, T2⟩ := own_write (d' := .lst ds') (o := .lst ws) S h0 e1 ⟨ws, rfl, rw'⟩
      exact q v G _ S2 T2 rv
    · cases hf
  · cases hf
def hApp (ds es : List D) : Option (D × List D) := match es with
  | [d] => if ds.length ≤ 1000000 then some (.non, ds ++ [d]) else none
  | _ => none
def hExt (ds es : List D) : Option (D × List D) := match es with
  | [.lst zs] => if ds.length + zs.length ≤ 1000000 then some (.non, ds ++ zs) else none
  | _ => none
def hPop (ds es : List D) : Option (D × List D) := match es with
  | [] => (match ds[ds.length - 1]? with
    | some d => some (d, ds.dropLast)
    | none => none)
  | _ => none
def hPopAt (ds es : List D) : Option (D × List D) := match es with
  | [.int i] => if decide (-(2 ^ 63) ≤ i) && decide (i < 2 ^ 63) then (match seqIndex? i ds.length with
    | some k => (match ds[k]? with
      | some d => some (d, ds.eraseIdx k)
      | none => none)
    | none => none) else none
  | _ => none
def hClr (_ es : List D) : Option (D × List D) := match es with
  | [] => some (.non, [])
  | _ => none
theorem m6 {n : Nat} (h : n ≤ 1000000) : n ≤ sizeLine := Nat.le_trans h (by decide)
theorem ok_app : OkMt rAppend hApp := fun G H ds es ds' c a vs us Q s ha ga r1 r2 h q => by
  unfold hApp at h
  split at h
  · rename_i d
    split at h
    · rename_i hl
      cases h
      obtain ⟨v, r, rfl, rv, rr⟩ := r2.inv
      rw [rr.inv0]
      refine ⟨a, vs, v, rfl, rfl, ha, ?_, q _ _ .non (r1.append (.cons rv .nil))⟩
      rw [← r1.length]
      exact Nat.lt_of_le_of_lt hl (by decide)
    · cases h
  · cases h
theorem ok_ext : OkMt rExtend hExt := fun G H ds es ds' c a vs us Q s ha ga r1 r2 h q => by
  unfold hExt at h
  split at h
  · rename_i zs
    split at h
    · rename_i hl
      cases h
      obtain ⟨v, r, rfl, rv, rr⟩ := r2.inv
      rw [rr.inv0]
      obtain ⟨b, ws, rfl, gb, rw'⟩ := Rep.lst_iff.mp rv
      exact ⟨a, b, vs, ws, rfl, rfl, ha, s _ _ gb, by rw [← r1.length, ← rw'.length]; exact m6 hl, q _ _ .non (r1.append rw')⟩
    · cases h
  · cases h
theorem ok_pop : OkMt rPop hPop := fun G H ds es ds' c a vs us Q s ha ga r1 r2 h q => by
  unfold hPop at h
  split at h
  · split at h
    · rename_i d hd
      cases h
      obtain ⟨v, h1, h2⟩ := r1.get hd
      rw [r2.inv0]
      refine ⟨a, vs, v, rfl, rfl, ha, by rw [← r1.length]; exact h1, q _ _ h2 ?_⟩
      rw [List.dropLast_eq_take, List.dropLast_eq_take, r1.length]
      exact r1.take _
    · cases h
  · cases h
theorem ok_popAt : OkMt rPopAt hPopAt := fun G H ds es ds' c a vs us Q s ha ga r1 r2 h q => by
  unfold hPopAt at h
  split at h
  · rename_i i
    split at h
    · rename_i hb
      simp only [Bool.and_eq_true, decide_eq_true_eq] at hb
      split at h
      · rename_i k hk
        split at h
        · rename_i d hd
          cases h
          obtain ⟨v, r, rfl, rv, rr⟩ := r2.inv
          rw [rr.inv0, Rep.int_iff.mp rv]
          obtain ⟨v, h1, h2⟩ := r1.get hd
          exact ⟨a, vs, i, k, v, rfl, rfl, ha, hb.1, hb.2, by rw [← r1.length]; exact hk, h1, q _ _ h2 (r1.eraseIdx k)⟩
        · cases h
      · cases h
    · cases h
  · cases h
theorem ok_clr : OkMt rClear hClr := fun G H ds es ds' c a vs us Q s ha ga r1 r2 h q => by
  unfold hClr at h
  split at h
  · cases h
    rw [r2.inv0]
    exact ⟨a, vs, rfl, rfl, ha, q _ _ .non .nil⟩
  · cases h
section
variable {x : Str} {p apos : Pos} {es : List Expr} {f : Ax}
theorem x_mt {name id : Str} {cpos : Pos} : True := trivial
theorem x_app (i : Nat) {cpos : Pos} (ha : QA X (e :: es) f) (hN : X.N[i]? = some x := by rfl) (hv : Vis X.env.scope x := by first | exact Or.inl rfl | exact Or.inr (Or.inl rfl) | exact Or.inr (Or.inr rfl)) (hd : (x == ("__debug__" : Str)) = false := by decide) (hcd : (x == ("__classdict__" : Str)) = false := by decide)
    (hbase : attributeBase (.Name x p) "append" X.env (eval (.Name x p) X.env) = eval (.Name x p) X.env := by rfl)
    (hfew : ((backTo cpos (starEach (e :: es) X.env)).all (fun x => !x.1) && (backToKw cpos (keywordEach [] X.env)).all (fun x => x.1.isSome) && decide ((e :: es).length + ([] : List Keyword).length + (if ([] : List Keyword).isEmpty then 0 else 1) < 30)) = true := by rfl)
    (hline : (apos.endLine == cpos.line) = true := by rfl) (hs : starEach (e :: es) X.env = (false, eval e X.env) :: starEach es X.env := by rfl) (hplain : (backTo cpos (starEach es X.env)).any (·.1) = false := by rfl) :
    PX X (.Call (.Attribute (.Name x p) "append" apos) (e :: es) [] cpos) (eMt i hApp f) :=
  L2.PE.weak (pe_bm PySem.F.plainAttrs_list PySem.F.slot_list_append PySem.F.type_list_append mt_append (pv i hN hv hd hcd) ha hbase hfew hline hs hplain) (mt_read ok_app)
theorem x_ext (i : Nat) {cpos : Pos} (ha : QA X (e :: es) f) (hN : X.N[i]? = some x := by rfl) (hv : Vis X.env.scope x := by first | exact Or.inl rfl | exact Or.inr (Or.inl rfl) | exact Or.inr (Or.inr rfl)) (hd : (x == ("__debug__" : Str)) = false := by decide) (hcd : (x == ("__classdict__" : Str)) = false := by decide)
    (hbase : attributeBase (.Name x p) "extend" X.env (eval (.Name x p) X.env) = eval (.Name x p) X.env := by rfl)
    (hfew : ((backTo cpos (starEach (e :: es) X.env)).all (fun x => !x.1) && (backToKw cpos (keywordEach [] X.env)).all (fun x => x.1.isSome) && decide ((e :: es).length + ([] : List Keyword).length + (if ([] : List Keyword).isEmpty then 0 else 1) < 30)) = true := by rfl)
    (hline : (apos.endLine == cpos.line) = true := by rfl) (hs : starEach (e :: es) X.env = (false, eval e X.env) :: starEach es X.env := by rfl) (hplain : (backTo cpos (starEach es X.env)).any (·.1) = false := by rfl) :
    PX X (.Call (.Attribute (.Name x p) "extend" apos) (e :: es) [] cpos) (eMt i hExt f) :=
  L2.PE.weak (pe_bm PySem.F.plainAttrs_list PySem.F.slot_list_extend PySem.F.type_list_extend mt_extend (pv i hN hv hd hcd) ha hbase hfew hline hs hplain) (mt_read ok_ext)
theorem x_popAt (i : Nat) {cpos : Pos} (ha : QA X (e :: es) f) (hN : X.N[i]? = some x := by rfl) (hv : Vis X.env.scope x := by first | exact Or.inl rfl | exact Or.inr (Or.inl rfl) | exact Or.inr (Or.inr rfl)) (hd : (x == ("__debug__" : Str)) = false := by decide) (hcd : (x == ("__classdict__" : Str)) = false := by decide)
    (hbase : attributeBase (.Name x p) "pop" X.env (eval (.Name x p) X.env) = eval (.Name x p) X.env := by rfl)
    (hfew : ((backTo cpos (starEach (e :: es) X.env)).all (fun x => !x.1) && (backToKw cpos (keywordEach [] X.env)).all (fun x => x.1.isSome) && decide ((e :: es).length + ([] : List Keyword).length + (if ([] : List Keyword).isEmpty then 0 else 1) < 30)) = true := by rfl)
    (hline : (apos.endLine == cpos.line) = true := by rfl) (hs : starEach (e :: es) X.env = (false, eval e X.env) :: starEach es X.env := by rfl) (hplain : (backTo cpos (starEach es X.env)).any (·.1) = false := by rfl) :
    PX X (.Call (.Attribute (.Name x p) "pop" apos) (e :: es) [] cpos) (eMt i hPopAt f) :=
  L2.PE.weak (pe_bm PySem.F.plainAttrs_list PySem.F.slot_list_pop PySem.F.type_list_pop mt_popAt (pv i hN hv hd hcd) ha hbase hfew hline hs hplain) (mt_read ok_popAt)
end

/-! ### o[i] = v -/
def sPut (i : Nat) (fi fe : Ex) : Sx := fun ρ => match fe ρ with
  | some (d, ρ1) => (match ρ1[i]? with
    | some (.ow _) => (match fi ρ1 with
      | some (k, ρ2) => (match ρ2[i]? with
        | some (.ow (.lst ds)) => (match k with
          | .int j => (match ixD ds.length j with
            | some n => some (.nx (ρ2.set i (.ow (.lst (ds.set n d)))))
            | none => none)
          | _ => none)
        | _ => none)
      | none => none)
    | _ => none)
  | none => none
theorem s_put (i : Nat) {x : Str} {p pos' : Pos} {k : Expr} {fi fe : Ex} (hi : PX X k fi) (he : PX X e fe) (hN : X.N[i]? = some x := by rfl) (hv : Vis X.env.scope x := by first | exact Or.inl rfl | exact Or.inr (Or.inl rfl) | exact Or.inr (Or.inr rfl)) (hd : (x == ("__debug__" : Str)) = false := by decide) (hcd : (x == ("__classdict__" : Str)) = false := by decide)
    (ha : ∀ v, assign (.Subscript (.Name x p) k pos') X.env v = (do
      let ov ← holding [v] (eval (.Name x p) X.env)
      let iv ← holding [v, ov] (eval k X.env)
      standAt pos'
      holding [v, ov, iv] (setItem ov iv v)
      release [v, ov, iv] []) := by intro _; rfl)
    (hs : swapsWithSole [.Subscript (.Name x p) k pos'] e pos.line X.env = pure false := by rfl) (hw : swappedStores [.Subscript (.Name x p) k pos'] e X.env = pure none := by rfl)
    (h1 : (assignEach [.Subscript (.Name x p) k pos'] X.env).map (·.2) = [assign (.Subscript (.Name x p) k pos') X.env] := by rfl) : SX X own (.Assign [.Subscript (.Name x p) k pos'] e pos) (sPut i fi fe) :=
  L2.PS.weak (ps_asg he (pg_sub (pv i hN hv hd hcd) hi set_list ha) hs hw h1) fun Dn σ H ⟨B, Bg, G, ρ, o, S, hf, q⟩ => by
    unfold sPut at hf
    split at hf
    · rename_i d ρ1 h1
      split at hf
      · rename_i d0 h0
        split at hf
        · rename_i k' ρ2 h2
          split at hf
          · rename_i ds h3
            split at hf
            · rename_i j
              split at hf
              · rename_i n hn
                cases hf
                refine ⟨B, Bg, G, ρ, d, ρ1, S, h1, fun v G1 H1 S1 T1 r1 => ?_⟩
                obtain ⟨a, o1, e1, _⟩ := S1.ow_at h0
                refine ⟨.ref a, e1, B, Bg, G1, ρ1, _, ρ2, S1, h2, fun y G2 H2 S2 T2 r2 => ?_⟩
                obtain ⟨a', o', e1', ba', ga', ha', vs, rfl, r3⟩ := S2.ow_at h3
                rw [e1] at e1'; cases e1'
                obtain ⟨S3, T3⟩ := own_write (d' := .lst (ds.set n d)) (o := .lst (vs.set n v)) S2 h3 e1 ⟨_, rfl, r3.set n (r1.mono T2.g)⟩
                refine ⟨a, vs, j, n, rfl, Rep.int_iff.mp r2, ha', by rw [← r3.length]; exact hn, ?_⟩
                exact q σ G2 _ S3 fun b u z => T2.g b u (T1.g b u z)
              · cases hf
            · cases hf
          · cases hf
        · cases hf
      · cases hf
    · cases hf
def sPutK (i : Nat) (fi fe : Ex) : Sx := fun ρ => match fe ρ with
  | some (d, ρ1) => (match ρ1[i]? with
    | some (.ow _) => (match fi ρ1 with
      | some (k, ρ2) => (match ρ2[i]? with
        | some (.ow (.dct ks ds)) => (match keyD k with
          | some x => if ks.Nodup ∧ ks.length ≤ 1000000 then some (.nx (ρ2.set i (.ow (.dct (dput ks ds x d).1 (dput ks ds x d).2)))) else none
          | _ => none)
        | _ => none)
      | none => none)
    | _ => none)
  | none => none
theorem s_putK (i : Nat) {x : Str} {p pos' : Pos} {k : Expr} {fi fe : Ex} (hu : X.A.units + 1 < cLine) (hi : PX X k fi) (he : PX X e fe) (hs : swapsWith e (some (.Subscript (.Name x p) k pos')) pos.line X.env = pure false := by rfl) (hN : X.N[i]? = some x := by rfl)
    (hv : Vis X.env.scope x := by first | exact Or.inl rfl | exact Or.inr (Or.inl rfl) | exact Or.inr (Or.inr rfl)) (hd : (x == ("__debug__" : Str)) = false := by decide) (hcd : (x == ("__classdict__" : Str)) = false := by decide) : SX X own (.Assign [.Subscript (.Name x p) k pos'] e pos) (sPutK i fi fe) :=
  L2.PS.weak (ps_dput hu (pv i hN hv hd hcd) hi he hs) fun Dn σ H ⟨B, Bg, G, ρ, o, S, hf, q⟩ => by
    unfold sPutK at hf
    split at hf
    · rename_i d ρ1 h1
      split at hf
      · rename_i d0 h0
        split at hf
        · rename_i k' ρ2 h2
          split at hf
          · rename_i ks ds h3
            split at hf
            · rename_i x hx
              split at hf
              · rename_i hnd
                cases hf
                refine ⟨B, Bg, G, ρ, d, ρ1, S, h1, fun v G1 H1 S1 T1 r1 => ?_⟩
                obtain ⟨a, o1, e1, _⟩ := S1.ow_at h0
                refine ⟨.ref a, e1, B, Bg, G1, ρ1, _, ρ2, S1, h2, fun y G2 H2 S2 T2 r2 => ?_⟩
                obtain ⟨a', o', e1', ba', ga', ha', kvs, rfl, hk, r3⟩ := S2.ow_at h3
                rw [e1] at e1'; cases e1'
                obtain ⟨h4, h5⟩ := dput_ok (x := x) (r1.mono T2.g) hk r3 hnd.1
                obtain ⟨S3, T3⟩ := own_write (d' := .dct (dput ks ds x d).1 (dput ks ds x d).2) (o := .dK (putK kvs x v)) S2 h3 e1 ⟨_, rfl, h4, h5⟩
                have hl : kvs.length < sizeLine := by
                  have : kvs.length = ks.length := by rw [← hk, List.length_map]
                  rw [this]; exact Nat.lt_of_le_of_lt hnd.2 (by decide)
                rw [keyD_ok r2 hx]
                exact ⟨a, _, rfl, DPut.k ha' hl, q σ G2 _ S3 fun b u z => T2.g b u (T1.g b u z)⟩
              · cases hf
            · cases hf
          · cases hf
        · cases hf
      · cases hf
    · cases hf
/-- name += number -/
def sInc (i : Nat) (f : Ex) : Sx := fun ρ => match ρ[i]? with
  | some (.fz (.int a)) => (match f ρ with
    | some (.int b, ρ1) => some (.nx (ρ1.set i (.fz (.int (a + b)))))
    | _ => none)
  | _ => none
theorem s_inc (i : Nat) {x : Str} {f : Ex} {pos' : Pos} (hN : X.N.Nodup) (h : PX X e f) (hi : X.N[i]? = some x := by rfl) (hx : Loc X.env.scope x := by first | exact Or.inl rfl | exact Or.inr rfl)
    (hf : X.fn x = true ∨ X.env.scope.names.lookup x = some .local := by first | exact .inl rfl | exact .inr rfl | assumption) : SX X own (.AugAssign (.Name x pos') .Add e pos) (sInc i f) :=
  L2.PS.weak (ps_aug hN hi hx h ip_add hf) fun Dn σ H ⟨B, Bg, G, ρ, o, S, hf, q⟩ => by
    unfold sInc at hf
    split at hf
    · rename_i a h0
      split at hf
      · rename_i b ρ1 h1
        cases hf
        obtain ⟨o, e1, v, e2, r⟩ := S.sl i _ h0
        refine ⟨v, by rw [e1, e2], B, Bg, G, ρ, _, ρ1, S, h1, fun y G1 H1 S1 T1 r1 => ?_⟩
        exact ⟨a, b, Rep.int_iff.mp r, Rep.int_iff.mp r1, q _ G1 H1 (S1.setF .int) T1.g⟩
      · cases hf
    · cases hf
end

/-! ### defs -/
def startD (n : Nat) (ds : List D) : Env := ds.map Sl.fz ++ List.replicate (n - ds.length) .un
/-- what a body is worth as a function of its arguments: n slots, np parameters -/
def runF (n np : Nat) (F : Sx) (ds : List D) : Option D := if ds.length = np then (match F (startD n ds) with
  | some (.rt d) => some d
  | some (.nx _) => some .non
  | _ => none) else none
/-- .. of one that hands back a thing of its own: it always says return -/
def runN (n np : Nat) (F : Sx) (ds : List D) : Option D := if ds.length = np then (match F (startD n ds) with
  | some (.rt d) => some d
  | _ => none) else none
theorem sta_start {G H : Hp} {N : List Str} {ds : List D} {vs : List V} (s : Sm G H) (r : Reps G ds vs) : Sta H G G H (startD N.length ds) (L2.start N vs) where
  old := fun _ _ z => z
  oldG := fun _ _ z => z
  sub := s
  new := fun a e n => absurd e n
  len := by
    unfold startD L2.start
    rw [List.length_append, List.length_append, List.length_map, List.length_map, List.length_replicate, List.length_replicate, r.length]
  sl := fun i s' e => by
    unfold startD at e
    unfold L2.start
    have hl := r.length
    by_cases hi : i < ds.length
    · rw [List.getElem?_append_left (by simpa using hi), List.getElem?_map] at e
      rw [List.getElem?_append_left (by simp; omega), List.getElem?_map]
      obtain ⟨v, h1, h2⟩ := r.get (List.getElem?_eq_getElem hi)
      rw [List.getElem?_eq_getElem hi] at e
      cases e
      rw [h1]
      exact ⟨_, rfl, v, rfl, h2⟩
    · rw [List.getElem?_append_right (by simpa using hi)] at e
      rw [List.getElem?_append_right (by simp; omega)]
      simp only [List.length_map, List.getElem?_replicate] at e ⊢
      rw [← hl]
      split at e
      · rename_i h1
        cases e
        exact ⟨none, by rw [if_pos h1], trivial⟩
      · cases e
  dist := fun i j d e h _ _ => by
    unfold startD at h
    by_cases hi : i < ds.length
    · rw [List.getElem?_append_left (by simpa using hi), List.getElem?_map, List.getElem?_eq_getElem hi] at h
      cases h
    · rw [List.getElem?_append_right (by simpa using hi)] at h
      simp only [List.length_map, List.getElem?_replicate] at h
      split at h <;> cases h
theorem run_read {N : List Str} {np : Nat} {F : Sx} {vs : List V} {H : Hp} {Q : VK} {E : XK} (h : spV false (runF N.length np F) vs H Q E) : tS false F { nx := fun _ H' => Q .non H', rt := Q } (L2.start N vs) H := by
  obtain ⟨G, ds, d, s, r, hg, q⟩ := h
  unfold runF at hg
  split at hg
  · split at hg
    · rename_i d' hF
      cases hg
      exact ⟨H, G, G, _, _, sta_start s r, hF, fun v G' H' ⟨l, x⟩ => q v G' H' l x⟩
    · rename_i ρ' hF
      cases hg
      exact ⟨H, G, G, _, _, sta_start s r, hF, fun σ' G' H' S' _ => q .non G' H' S'.layB (by simp [Rep.non_iff])⟩
    · cases hg
  · cases hg
theorem run_readN {N : List Str} {np : Nat} {F : Sx} {vs : List V} {H : Hp} {Q : VK} {E : XK} (h : spV true (runN N.length np F) vs H Q E) : tS true F { nx := fun _ H' => Q .non H', rt := Q } (L2.start N vs) H := by
  obtain ⟨G, ds, d, s, r, hg, q⟩ := h
  unfold runN at hg
  split at hg
  · split at hg
    · rename_i d' hF
      cases hg
      exact ⟨H, G, G, _, _, sta_start s r, hF, fun v G' H' ⟨l, x⟩ => q v G' H' l x⟩
    · cases hg
  · cases hg
section
variable {P : Program} {w : World} {K : PySem.W.Frag} {mg : Str → Option Value} {base : Heap} {x qual : Str} {params : Arguments} {body : List Stmt} {scope : Scope} {dvs : List V} {kws : List (Str × V)} {f : Addr} {fd : FuncData}
theorem fn_val {N ps : List Str} {k : Nat} {F : Sx} (D : FunD K x qual params body scope dvs kws f fd) (S : FnScope N ps scope) (h : ∀ (cdv : Value) (A : Around) (outer : List PySem.Env) (s : Shared) (H : Hp) (E : XK), Room k (A.deeper (envOfC qual scope s.heap.objs.size f cdv)) → SB (cxOf CX0 P w K mg base N qual scope f cdv A outer s H E).nox false body F) :
    FnOk P w K mg base CX0 (k + 1) f fd ps (spV false (runF N.length ps.length F)) :=
  D.ok S (fun vs H Q E ⟨G, ds, d, s, r, hg, q⟩ => by
    unfold runF at hg
    split at hg
    · rename_i hl
      rw [← r.length]; exact hl
    · cases hg) fun cdv A outer s H vs Q E hr hsp => ⟨_, (h cdv A outer s H E hr).nox, run_read hsp⟩
theorem fn_own {N ps : List Str} {k : Nat} {F : Sx} (D : FunD K x qual params body scope dvs kws f fd) (S : FnScope N ps scope) (h : ∀ (cdv : Value) (A : Around) (outer : List PySem.Env) (s : Shared) (H : Hp) (E : XK), Room k (A.deeper (envOfC qual scope s.heap.objs.size f cdv)) → SB (cxOf CX0 P w K mg base N qual scope f cdv A outer s H E).nox true body F) :
    FnOk P w K mg base CX0 (k + 1) f fd ps (spV true (runN N.length ps.length F)) :=
  D.ok S (fun vs H Q E ⟨G, ds, d, s, r, hg, q⟩ => by
    unfold runN at hg
    split at hg
    · rename_i hl
      rw [← r.length]; exact hl
    · cases hg) fun cdv A outer s H vs Q E hr hsp => ⟨_, (h cdv A outer s H E hr).nox, run_readN hsp⟩
/-- one that hands back a thing of its own hands back a value -/
theorem own_val {k : Nat} {ps : List Str} {g : List D → Option D} (h : FnOk P w K mg base CX0 k f fd ps (spV true g)) : FnOk P w K mg base CX0 k f fd ps (spV false g) := h.imp fun vs H Q E ⟨G, ds, d, s, r, hg, q⟩ => ⟨G, ds, d, s, r, hg, fun v G' H' l o => by
  have o : Own H G' H' d v := by simpa using o
  obtain ⟨a, ea, na, ga, ha⟩ := o.addr
  obtain ⟨u, hu⟩ : ∃ u, H' a = some u := by
    cases z : H' a with
    | none => exact absurd z ha
    | some u => exact ⟨u, rfl⟩
  have rp : Rep (upd G' a u) d v := by
    obtain ⟨a', ea', _, _, m⟩ := o
    rw [ea] at ea'; cases ea'
    subst ea
    have gg : Sm G' (upd G' a u) := sm_upd ga
    cases d <;> simp only at m
    · obtain ⟨vs, m, r⟩ := m
      rw [hu] at m; cases m
      exact Rep.lst_iff.mpr ⟨a, vs, rfl, upd_same, r.mono gg⟩
    · obtain ⟨vs, m, k, r⟩ := m
      rw [hu] at m; cases m
      exact Rep.dct_iff.mpr ⟨a, vs, rfl, upd_same, k, r.mono gg⟩
    · obtain ⟨n, m⟩ := m
      rw [hu] at m; cases m
      exact Rep.set_iff.mpr ⟨a, rfl, n, upd_same⟩
  refine q v (upd G' a u) H' ⟨fun b o e => sm_upd ga b o (l.g b o e), l.h, fun b o e => ?_, fun b e n => ?_⟩ (by simpa using rp)
  · by_cases hb : b = a
    · subst hb; rw [upd_same] at e; cases e; exact hu
    · rw [upd_ne hb] at e; exact l.sub b o e
  · by_cases hb : b = a
    · subst hb; exact na
    · rw [upd_ne hb] at n; exact l.new b e n⟩
end

/-! ### built-ins -/
section
variable {X : Cx} {e a b : Expr} {pos : Pos}
def g1 (h : D → Option D) (ds : List D) : Option D := match ds with
  | [d] => h d
  | _ => none
def hLen (d : D) : Option D := match d with
  | .lst ds => some (.int ds.length)
  | .tup ds => some (.int ds.length)
  | _ => none
theorem ok_len {K : PySem.W.Frag} : OkC (fun xs H Q => ∃ p ys, xs = [.ref p] ∧ (SqL K H p ys ∨ SqT K H p ys) ∧ Q (.int ys.length) H) (g1 hLen) := fun G H ds c vs Q s r h q => by
  unfold g1 at h
  split at h
  · rename_i d
    obtain ⟨v, r', rfl, rv, rr⟩ := r.inv
    rw [rr.inv0]
    unfold hLen at h
    cases d <;> simp only at h
    case lst ds =>
      cases h
      obtain ⟨a, us, rfl, ga, ru⟩ := Rep.lst_iff.mp rv
      exact ⟨a, us, rfl, .inl (.of (s _ _ ga)), q _ _ _ (.refl s) (by rw [← ru.length]; exact .int)⟩
    case tup ds =>
      cases h
      obtain ⟨a, us, rfl, ga, ru⟩ := Rep.tup_iff.mp rv
      exact ⟨a, us, rfl, .inr (.of (s _ _ ga)), q _ _ _ (.refl s) (by rw [← ru.length]; exact .int)⟩
    all_goals cases h
  · cases h
def hInt (d : D) : Option D := match d with
  | .int i => some (.int i)
  | .bl k => some (.int (if k then 1 else 0))
  | _ => none
theorem ok_int : OkC (fun xs H Q => (∃ i, xs = [.int i] ∧ Q (.int i) H) ∨ ∃ k, xs = [.bl k] ∧ Q (.int (if k then 1 else 0)) H) (g1 hInt) := fun G H ds c vs Q s r h q => by
  unfold g1 at h
  split at h
  · rename_i d
    obtain ⟨v, r', rfl, rv, rr⟩ := r.inv
    rw [rr.inv0]
    unfold hInt at h
    cases d <;> simp only at h
    case int i => cases h; exact .inl ⟨i, by rw [Rep.int_iff.mp rv], q _ _ _ (.refl s) .int⟩
    case bl i => cases h; exact .inr ⟨i, by rw [Rep.bl_iff.mp rv], q _ _ _ (.refl s) .int⟩
    all_goals cases h
  · cases h
def hAbs (d : D) : Option D := match d with
  | .int i => some (.int (if i < 0 then -i else i))
  | _ => none
theorem ok_abs : OkC (fun xs H Q => ∃ i, xs = [.int i] ∧ Q (.int (if i < 0 then -i else i)) H) (g1 hAbs) := fun G H ds c vs Q s r h q => by
  unfold g1 at h
  split at h
  · rename_i d
    obtain ⟨v, r', rfl, rv, rr⟩ := r.inv
    rw [rr.inv0]
    unfold hAbs at h
    cases d <;> simp only at h
    case int i => cases h; exact ⟨i, by rw [Rep.int_iff.mp rv], q _ _ _ (.refl s) .int⟩
    all_goals cases h
  · cases h
/-- max, min of two numbers -/
def gMax2 (ds : List D) : Option D := match ds with
  | [.int i, .int j] => some (.int (if j > i then j else i))
  | _ => none
def gMin2 (ds : List D) : Option D := match ds with
  | [.int i, .int j] => some (.int (if j < i then j else i))
  | _ => none
theorem ok_max2 : OkC (fun xs H Q => ∃ i j, xs = [.int i, .int j] ∧ Q (.int (if j > i then j else i)) H) gMax2 := fun G H ds c vs Q s r h q => by
  unfold gMax2 at h
  split at h
  · rename_i i j
    cases h
    obtain ⟨v, r', rfl, rv, rr⟩ := r.inv
    obtain ⟨v', r'', rfl, rv', rr'⟩ := rr.inv
    rw [rr'.inv0, Rep.int_iff.mp rv, Rep.int_iff.mp rv']
    exact ⟨i, j, rfl, q _ _ _ (.refl s) .int⟩
  · cases h
theorem ok_min2 : OkC (fun xs H Q => ∃ i j, xs = [.int i, .int j] ∧ Q (.int (if j < i then j else i)) H) gMin2 := fun G H ds c vs Q s r h q => by
  unfold gMin2 at h
  split at h
  · rename_i i j
    cases h
    obtain ⟨v, r', rfl, rv, rr⟩ := r.inv
    obtain ⟨v', r'', rfl, rv', rr'⟩ := rr.inv
    rw [rr'.inv0, Rep.int_iff.mp rv, Rep.int_iff.mp rv']
    exact ⟨i, j, rfl, q _ _ _ (.refl s) .int⟩
  · cases h
/-- lists of numbers, of truth values -/
def intsD : List D → Option (List Int)
  | [] => some []
  | .int i :: ds => (intsD ds).map (i :: ·)
  | _ => none
def blsD : List D → Option (List Bool)
  | [] => some []
  | .bl i :: ds => (blsD ds).map (i :: ·)
  | _ => none
theorem intsD_eq : ∀ {ds : List D} {ns : List Int}, intsD ds = some ns → ds = ns.map D.int
  | [], _, h => by cases h; rfl
  | d :: ds, ns, h => by
    cases d <;> simp only [intsD] at h
    case int i =>
      cases h2 : intsD ds with
      | none => rw [h2] at h; cases h
      | some ms => rw [h2] at h; cases h; rw [intsD_eq h2]; rfl
    all_goals cases h
theorem blsD_eq : ∀ {ds : List D} {ns : List Bool}, blsD ds = some ns → ds = ns.map D.bl
  | [], _, h => by cases h; rfl
  | d :: ds, ns, h => by
    cases d <;> simp only [blsD] at h
    case bl i =>
      cases h2 : blsD ds with
      | none => rw [h2] at h; cases h
      | some ms => rw [h2] at h; cases h; rw [blsD_eq h2]; rfl
    all_goals cases h
theorem intsD_map : ∀ ns : List Int, intsD (ns.map D.int) = some ns
  | [] => rfl
  | n :: ns => by simp [intsD, intsD_map ns]
theorem blsD_map : ∀ ns : List Bool, blsD (ns.map D.bl) = some ns
  | [] => rfl
  | n :: ns => by simp [blsD, blsD_map ns]
def hSum (d : D) : Option D := match d with
  | .lst ds => (intsD ds).map fun ns => .int ns.sum
  | _ => none
def hAll (d : D) : Option D := match d with
  | .lst ds => (blsD ds).map fun ns => .bl (ns.all id)
  | _ => none
def hAny (d : D) : Option D := match d with
  | .lst ds => (blsD ds).map fun ns => .bl (ns.any id)
  | _ => none
theorem of_map {α β : Type} {o : Option α} {f : α → β} {c : β} (h : o.map f = some c) : ∃ x, o = some x ∧ c = f x := by
  cases o with
  | none => cases h
  | some x => exact ⟨x, rfl, (Option.some.inj h).symm⟩
theorem ok_sum {K : PySem.W.Frag} : OkC (rSum K) (g1 hSum) := fun G H ds c vs Q s r h q => by
  unfold g1 at h
  split at h
  · rename_i d
    obtain ⟨v, r', rfl, rv, rr⟩ := r.inv
    rw [rr.inv0]
    unfold hSum at h
    cases d <;> simp only at h
    case lst ds =>
      obtain ⟨ns, h1, rfl⟩ := of_map h
      obtain ⟨a, us, rfl, ga, ru⟩ := Rep.lst_iff.mp rv
      rw [intsD_eq h1] at ru
      rw [ru.ints_inv] at ga
      exact ⟨a, ns, rfl, .of (s _ _ ga), q _ _ _ (.refl s) .int⟩
    all_goals cases h
  · cases h
theorem ok_all {K : PySem.W.Frag} : OkC (rAll K) (g1 hAll) := fun G H ds c vs Q s r h q => by
  unfold g1 at h
  split at h
  · rename_i d
    obtain ⟨v, r', rfl, rv, rr⟩ := r.inv
    rw [rr.inv0]
    unfold hAll at h
    cases d <;> simp only at h
    case lst ds =>
      obtain ⟨ns, h1, rfl⟩ := of_map h
      obtain ⟨a, us, rfl, ga, ru⟩ := Rep.lst_iff.mp rv
      rw [blsD_eq h1] at ru
      rw [ru.bls_inv] at ga
      exact ⟨a, ns, rfl, .of (s _ _ ga), q _ _ _ (.refl s) .bl⟩
    all_goals cases h
  · cases h
theorem ok_any {K : PySem.W.Frag} : OkC (rAny K) (g1 hAny) := fun G H ds c vs Q s r h q => by
  unfold g1 at h
  split at h
  · rename_i d
    obtain ⟨v, r', rfl, rv, rr⟩ := r.inv
    rw [rr.inv0]
    unfold hAny at h
    cases d <;> simp only at h
    case lst ds =>
      obtain ⟨ns, h1, rfl⟩ := of_map h
      obtain ⟨a, us, rfl, ga, ru⟩ := Rep.lst_iff.mp rv
      rw [blsD_eq h1] at ru
      rw [ru.bls_inv] at ga
      exact ⟨a, ns, rfl, .of (s _ _ ga), q _ _ _ (.refl s) .bl⟩
    all_goals cases h
  · cases h
/-- the greatest, the least of a list of numbers -/
def maxL : List Int → Int
  | [] => 0
  | n :: ns => ns.foldl (fun m k => if k > m then k else m) n
def minL : List Int → Int
  | [] => 0
  | n :: ns => ns.foldl (fun m k => if k < m then k else m) n
theorem foldl_max : ∀ (ns : List Int) (m : Int), (ns.foldl (fun m k => if k > m then k else m) m = m ∨ ns.foldl (fun m k => if k > m then k else m) m ∈ ns) ∧ m ≤ ns.foldl (fun m k => if k > m then k else m) m ∧ ∀ k ∈ ns, k ≤ ns.foldl (fun m k => if k > m then k else m) m
  | [], m => ⟨.inl rfl, Int.le_refl _, fun _ h => by cases h⟩
  | n :: ns, m => by
    simp only [List.foldl_cons]
    obtain ⟨h1, h2, h3⟩ := foldl_max ns (if n > m then n else m)
    have hm : m ≤ (if n > m then n else m) ∧ n ≤ (if n > m then n else m) := by split <;> omega
    refine ⟨?_, by omega, fun k hk => ?_⟩
    · rcases h1 with z | z
      · rw [z]
        split
        · exact .inr List.mem_cons_self
        · exact .inl rfl
      · exact .inr (List.mem_cons_of_mem _ z)
    · rcases List.mem_cons.mp hk with rfl | hk
      · omega
      · exact h3 k hk
theorem foldl_min : ∀ (ns : List Int) (m : Int), (ns.foldl (fun m k => if k < m then k else m) m = m ∨ ns.foldl (fun m k => if k < m then k else m) m ∈ ns) ∧ ns.foldl (fun m k => if k < m then k else m) m ≤ m ∧ ∀ k ∈ ns, ns.foldl (fun m k => if k < m then k else m) m ≤ k
  | [], m => ⟨.inl rfl, Int.le_refl _, fun _ h => by cases h⟩
  | n :: ns, m => by
    simp only [List.foldl_cons]
    obtain ⟨h1, h2, h3⟩ := foldl_min ns (if n < m then n else m)
    have hm : (if n < m then n else m) ≤ m ∧ (if n < m then n else m) ≤ n := by split <;> omega
    refine ⟨?_, by omega, fun k hk => ?_⟩
    · rcases h1 with z | z
      · rw [z]
        split
        · exact .inr List.mem_cons_self
        · exact .inl rfl
      · exact .inr (List.mem_cons_of_mem _ z)
    · rcases List.mem_cons.mp hk with rfl | hk
      · omega
      · exact h3 k hk
theorem maxL_spec {ns : List Int} (h : ns ≠ []) : maxL ns ∈ ns ∧ ∀ k ∈ ns, k ≤ maxL ns := by
  cases ns with
  | nil => exact absurd rfl h
  | cons n ns =>
    obtain ⟨h1, h2, h3⟩ := foldl_max ns n
    refine ⟨?_, fun k hk => ?_⟩
    · rcases h1 with z | z
      · show ns.foldl _ n ∈ _
        rw [z]; exact List.mem_cons_self
      · exact List.mem_cons_of_mem _ z
    · rcases List.mem_cons.mp hk with rfl | hk
      · exact h2
      · exact h3 k hk
theorem minL_spec {ns : List Int} (h : ns ≠ []) : minL ns ∈ ns ∧ ∀ k ∈ ns, minL ns ≤ k := by
  cases ns with
  | nil => exact absurd rfl h
  | cons n ns =>
    obtain ⟨h1, h2, h3⟩ := foldl_min ns n
    refine ⟨?_, fun k hk => ?_⟩
    · rcases h1 with z | z
      · show ns.foldl _ n ∈ _
        rw [z]; exact List.mem_cons_self
      · exact List.mem_cons_of_mem _ z
    · rcases List.mem_cons.mp hk with rfl | hk
      · exact h2
      · exact h3 k hk
def hMax (d : D) : Option D := match d with
  | .lst ds => (match intsD ds with
    | some (n :: ns) => some (.int (maxL (n :: ns)))
    | _ => none)
  | _ => none
def hMin (d : D) : Option D := match d with
  | .lst ds => (match intsD ds with
    | some (n :: ns) => some (.int (minL (n :: ns)))
    | _ => none)
  | _ => none
theorem ok_max {K : PySem.W.Frag} : OkC (rMax K) (g1 hMax) := fun G H ds c vs Q s r h q => by
  unfold g1 at h
  split at h
  · rename_i d
    obtain ⟨v, r', rfl, rv, rr⟩ := r.inv
    rw [rr.inv0]
    unfold hMax at h
    cases d <;> simp only at h
    case lst ds =>
      split at h
      · rename_i n ns h1
        cases h
        obtain ⟨a, us, rfl, ga, ru⟩ := Rep.lst_iff.mp rv
        rw [intsD_eq h1] at ru
        rw [ru.ints_inv] at ga
        refine ⟨a, n :: ns, rfl, .of (s _ _ ga), by simp, fun m hm hle => ?_⟩
        obtain ⟨k1, k2⟩ := maxL_spec (ns := n :: ns) (by simp)
        have : m = maxL (n :: ns) := by
          have a1 := hle _ k1
          have a2 := k2 m hm
          omega
        rw [this]
        exact q _ _ _ (.refl s) .int
      · cases h
    all_goals cases h
  · cases h
theorem ok_min {K : PySem.W.Frag} : OkC (rMin K) (g1 hMin) := fun G H ds c vs Q s r h q => by
  unfold g1 at h
  split at h
  · rename_i d
    obtain ⟨v, r', rfl, rv, rr⟩ := r.inv
    rw [rr.inv0]
    unfold hMin at h
    cases d <;> simp only at h
    case lst ds =>
      split at h
      · rename_i n ns h1
        cases h
        obtain ⟨a, us, rfl, ga, ru⟩ := Rep.lst_iff.mp rv
        rw [intsD_eq h1] at ru
        rw [ru.ints_inv] at ga
        refine ⟨a, n :: ns, rfl, .of (s _ _ ga), by simp, fun m hm hle => ?_⟩
        obtain ⟨k1, k2⟩ := minL_spec (ns := n :: ns) (by simp)
        have : m = minL (n :: ns) := by
          have a1 := hle _ k1
          have a2 := k2 m hm
          omega
        rw [this]
        exact q _ _ _ (.refl s) .int
      · cases h
    all_goals cases h
  · cases h
/-- list(a list), list(a tuple): a copy -/
def hLstOf (d : D) : Option D := match d with
  | .lst ds => some (.lst ds)
  | .tup ds => some (.lst ds)
  | _ => none
theorem ok_lstOf {K : PySem.W.Frag} : OkCN (fun xs H Q => ∃ p ys, xs = [.ref p] ∧ (SqL K H p ys ∨ SqT K H p ys) ∧ ∀ l, H l = none → Q (.ref l) (upd H l (.lst ys))) (g1 hLstOf) := fun G H ds c vs Q s r h q => by
  unfold g1 at h
  split at h
  · rename_i d
    obtain ⟨v, r', rfl, rv, rr⟩ := r.inv
    rw [rr.inv0]
    unfold hLstOf at h
    cases d <;> simp only at h
    case lst ds =>
      cases h
      obtain ⟨a, us, rfl, ga, ru⟩ := Rep.lst_iff.mp rv
      exact ⟨a, us, rfl, .inl (.of (s _ _ ga)), fun l nl => q l _ nl ⟨us, rfl, ru⟩⟩
    case tup ds =>
      cases h
      obtain ⟨a, us, rfl, ga, ru⟩ := Rep.tup_iff.mp rv
      exact ⟨a, us, rfl, .inr (.of (s _ _ ga)), fun l nl => q l _ nl ⟨us, rfl, ru⟩⟩
    all_goals cases h
  · cases h
/-- isinstance(x, T), T a built-in type -/
def tyD : D → Option String
  | .non => some "NoneType" | .bl _ => some "bool" | .int _ => some "int" | .str _ => some "str" | .tup _ => some "tuple" | .lst _ => some "list" | .dct _ _ => some "dict" | _ => none
def eIsi (T : String) (f : Ex) : Ex := fun ρ => match f ρ with
  | some (d, ρ1) => (match tyD d with
    | some a => some (.bl (a == T || (a == "bool" && T == "int")), ρ1)
    | none => none)
  | none => none
theorem tyD_ok {K : PySem.W.Frag} {G H : Hp} {d : D} {v : V} {a : String} (s : Sm G H) (r : Rep G d v) (h : tyD d = some a) : TyX K H v (.type a) := by
  cases d <;> simp only [tyD] at h
  case non => cases h; rw [Rep.non_iff.mp r]; exact .base .non
  case bl b => cases h; rw [Rep.bl_iff.mp r]; exact .base (.bl b)
  case int b => cases h; rw [Rep.int_iff.mp r]; exact .base (.int b)
  case str b => cases h; rw [Rep.str_iff.mp r]; exact .base (.str b)
  case tup ds =>
    cases h
    obtain ⟨a, us, rfl, ga, ru⟩ := Rep.tup_iff.mp r
    exact .base (.tup (s _ _ ga))
  case lst ds =>
    cases h
    obtain ⟨a, us, rfl, ga, ru⟩ := Rep.lst_iff.mp r
    exact .base (.lst (s _ _ ga))
  case dct ks ds =>
    cases h
    obtain ⟨a, us, rfl, ga, ru⟩ := Rep.dct_iff.mp r
    exact .base (.dK (s _ _ ga))
  all_goals cases h
theorem tyD_mem {d : D} {a : String} (h : tyD d = some a) : a ∈ ["NoneType", "bool", "int", "str", "tuple", "list", "dict"] := by
  cases d <;> simp only [tyD] at h <;> first
    | (cases h; simp)
    | cases h
theorem x_isi {T : Str} {Tn : String} {p p2 : Pos} {f : Ex} (ha : PX X e f) (hg : Gl X "isinstance") (hm : X.mg "isinstance" = none) (hgT : Gl X T) (hmT : X.mg T = none) (hvT : bootBuiltins T = some (.type Tn))
    (hk : ∀ a ∈ ["NoneType", "bool", "int", "str", "tuple", "list", "dict"], kitB a Tn = some (a == Tn || (a == "bool" && Tn == "int"))) (hnT : T ≠ "__name__" := by decide) (hdT : (T == ("__debug__" : Str)) = false := by decide)
    (he : starEach [e, .Name T p2] X.env = (false, eval e X.env) :: starEach [.Name T p2] X.env := by rfl) (he2 : starEach [.Name T p2] X.env = (false, eval (.Name T p2) X.env) :: starEach [] X.env := by rfl) (hpl : (backTo pos (starEach [.Name T p2] X.env)).any (·.1) = false := by rfl) :
    PX X (.Call (.Name "isinstance" p) [e, .Name T p2] [] pos) (eIsi Tn f) :=
  L2.PE.weak (pe_callB call_isi hg hm (by decide +kernel) (pa_cons ha (pa_cons (pe_bltn (v := .ty Tn) hgT hmT hvT rfl hnT hdT) pa_nil he2) he) (by decide) (by decide) he hpl) fun σ H Q ⟨B, Bg, G, ρ, c, ρ', S, hf, q⟩ => by
    unfold eIsi at hf
    split at hf
    · rename_i d ρ1 h1
      split at hf
      · rename_i a h2
        simp only [Option.some.injEq, Prod.mk.injEq] at hf
        obtain ⟨rfl, rfl⟩ := hf
        refine ⟨B, Bg, G, ρ, d, ρ1, S, h1, fun v G1 H1 S1 T1 r1 => ⟨v, .ty Tn, .type a, .type Tn, _, rfl, .ty Tn, tyD_ok S1.sub r1 h2, kit_ty (hk a (tyD_mem h2)), q _ G1 H1 S1 T1 .bl⟩⟩
      · cases hf
    · cases hf
theorem kit_int : ∀ a ∈ ["NoneType", "bool", "int", "str", "tuple", "list", "dict"], kitB a "int" = some (a == "int" || (a == "bool" && "int" == "int")) := by decide +kernel
theorem kit_bool : ∀ a ∈ ["NoneType", "bool", "int", "str", "tuple", "list", "dict"], kitB a "bool" = some (a == "bool" || (a == "bool" && "bool" == "int")) := by decide +kernel
theorem kit_list : ∀ a ∈ ["NoneType", "bool", "int", "str", "tuple", "list", "dict"], kitB a "list" = some (a == "list" || (a == "bool" && "list" == "int")) := by decide +kernel
theorem kit_tuple : ∀ a ∈ ["NoneType", "bool", "int", "str", "tuple", "list", "dict"], kitB a "tuple" = some (a == "tuple" || (a == "bool" && "tuple" == "int")) := by decide +kernel
end
end DL

/-! DL7: the script, pairs stored at once, repr, a law's end. -/
namespace DL
open PySem PySem.Spec PyProof.Rows L2
section
variable {X : Cx} {own : Bool} {e a b : Expr} {pos : Pos}
/-! ### the script -/
theorem walk_scr {K : PySem.W.Frag} {G : Hp} {a : Addr} {ns : List Int} (ga : Rd G a (.lst (ns.map V.int))) : Walk (Itl K a) G (ns.map D.int) where
  go := fun i G2 H2 g s hi => by
    have hi' : i < ns.length := by simpa using hi
    have hq : SqL K H2 a (ns.map V.int) := .inl (by
      rcases ga with z | ⟨o, z⟩
      · exact .inl (s _ _ (g _ _ z))
      · exact .inr ⟨o, s _ _ (g _ _ z)⟩)
    exact ⟨_, _, hq, List.getElem?_eq_getElem (by simpa using hi')⟩
  yld := fun i G2 H2 x H3 d g s hd ⟨e, h⟩ => by
    subst e
    have hq : SqL K H3 a (ns.map V.int) := .inl (by
      rcases ga with z | ⟨o, z⟩
      · exact .inl (s _ _ (g _ _ z))
      · exact .inr ⟨o, s _ _ (g _ _ z)⟩)
    have hx := h _ hq
    rw [List.getElem?_map] at hd hx
    cases hn : ns[i]? with
    | none => rw [hn] at hd; cases hd
    | some n =>
      rw [hn] at hd hx
      cases hd; cases hx
      exact ⟨G2, .refl s, .int⟩
  stop := fun i G2 H2 g s hi => ⟨ns.map V.int, .inl (by
      rcases ga with z | ⟨o, z⟩
      · exact .inl (s _ _ (g _ _ z))
      · exact .inr ⟨o, s _ _ (g _ _ z)⟩), by simpa using hi⟩
def iScr (f : Ex) : Ax := fun ρ => match f ρ with
  | some (.scr ns, ρ1) => some (ns.map D.int, ρ1)
  | _ => none
theorem i_scr {tg l : Expr} {f : Ex} (h : PX X l f) : QI X tg l (iScr f) := L2.PI.weak (pi_list h) fun σ H R ⟨B, Bg, G, ρ, ds, ρ', S, hf, q⟩ => by
  unfold iScr at hf
  split at hf
  · rename_i ns ρ1 h1
    cases hf
    refine ⟨B, Bg, G, ρ, _, _, S, h1, fun v G1 H1 S1 T1 r1 => ?_⟩
    obtain ⟨a, rfl, ga⟩ := Rep.scr_iff.mp r1
    refine ⟨a, rfl, ⟨ns.map V.int, .inl ?_⟩, q _ G1 H1 S1 T1 (walk_scr ga)⟩
    rcases ga with z | ⟨o, z⟩
    · exact .inl (S1.sub _ _ z)
    · exact .inr ⟨o, S1.sub _ _ z⟩
  · cases hf
def hLstScr (d : D) : Option D := match d with
  | .scr ns => some (.lst (ns.map D.int))
  | _ => none
theorem ok_lstScr {K : PySem.W.Frag} : OkCN (fun xs H Q => ∃ p ys, xs = [.ref p] ∧ (SqL K H p ys ∨ SqT K H p ys) ∧ ∀ l, H l = none → Q (.ref l) (upd H l (.lst ys))) (g1 hLstScr) := fun G H ds c vs Q s r h q => by
  unfold g1 at h
  split at h
  · rename_i d
    obtain ⟨v, r', rfl, rv, rr⟩ := r.inv
    rw [rr.inv0]
    unfold hLstScr at h
    cases d <;> simp only at h
    case scr ns =>
      cases h
      obtain ⟨a, rfl, ga⟩ := Rep.scr_iff.mp rv
      refine ⟨a, ns.map V.int, rfl, .inl (.inl ?_), fun l nl => q l _ nl ⟨_, rfl, .ints ns⟩⟩
      rcases ga with z | ⟨o, z⟩
      · exact .inl (s _ _ z)
      · exact .inr ⟨o, s _ _ z⟩
    all_goals cases h
  · cases h

/-! ### a, b = x, y -/
def sPar (i j : Nat) (f : Ax) : Sx := fun ρ => match f ρ with
  | some ([d, e], ρ1) => some (.nx ((ρ1.set i (.fz d)).set j (.fz e)))
  | _ => none
theorem s_par (i j : Nat) {x y : Str} {f : Ax} {px py pt : Pos} {kt k2 pt2} (hc : X.calm = true) (hN : X.N.Nodup) (hx : X.env.scope.names.lookup x = some .local) (hy : X.env.scope.names.lookup y = some .local) (ha : QA X [a, b] f)
    (hw : swappedStores [.Tuple [.Name x px, .Name y py] kt pt] (.Tuple [a, b] k2 pt2) X.env = pure (some [x, y])) (hi : X.N[i]? = some x := by rfl) (hj : X.N[j]? = some y := by rfl) (hij : i ≠ j := by decide)
    (hs : swapsWithSole [.Tuple [.Name x px, .Name y py] kt pt] (.Tuple [a, b] k2 pt2) pos.line X.env = pure false := by rfl) : SX X own (.Assign [.Tuple [.Name x px, .Name y py] kt pt] (.Tuple [a, b] k2 pt2) pos) (sPar i j f) :=
  L2.PS.weak (ps_par hc hN hi hj hij hx hy ha hw hs) fun Dn σ H ⟨B, Bg, G, ρ, o, S, hf, q⟩ => by
    unfold sPar at hf
    split at hf
    · rename_i d e ρ1 h1
      cases hf
      refine ⟨B, Bg, G, ρ, _, ρ1, S, h1, fun vs G1 H1 S1 T1 r1 => ?_⟩
      obtain ⟨v, r, rfl, rv, rr⟩ := r1.inv
      obtain ⟨u, r', rfl, ru, rr'⟩ := rr.inv
      rw [rr'.inv0]
      exact ⟨v, u, rfl, q _ G1 H1 ((S1.setF rv).setF ru) T1.g⟩
    · cases hf

/-! ### dict(a list of pairs) -/
def pairsD : List D → Option (List (Key × D))
  | [] => some []
  | .tup [k, d] :: ds => (match keyD k with
    | some x => (pairsD ds).map ((x, d) :: ·)
    | none => none)
  | _ => none
def dputs (ks : List Key) (ds : List D) : List (Key × D) → List Key × List D
  | [] => (ks, ds)
  | (x, d) :: r => dputs (dput ks ds x d).1 (dput ks ds x d).2 r
def hDct (d : D) : Option D := match d with
  | .lst ds => (match pairsD ds with
    | some ps => if (ps.map (·.1)).Nodup then some (.dct (ps.map (·.1)) (ps.map (·.2))) else none
    | none => none)
  | _ => none
theorem putK_new {kvs : List (Key × V)} {x : Key} {v : V} (h : x ∉ kvs.map (·.1)) : putK kvs x v = kvs ++ [(x, v)] := by
  unfold putK
  have : (kvs.any fun kv => decide (kv.1 = x)) = false := by
    rw [List.any_eq_false]
    intro kv hk
    have : kv.1 ≠ x := fun z => h (by rw [← z]; exact List.mem_map_of_mem hk)
    simp [this]
  rw [this]; simp
theorem mergeK_new : ∀ {ps kvs : List (Key × V)}, (kvs.map (·.1) ++ ps.map (·.1)).Nodup → mergeK kvs ps = kvs ++ ps
  | [], kvs, _ => by simp [mergeK]
  | (x, v) :: ps, kvs, h => by
    have h1 : x ∉ kvs.map (·.1) := by
      intro z
      have := List.nodup_append.mp h
      exact this.2.2 x z x (by simp) rfl
    have e : mergeK kvs ((x, v) :: ps) = mergeK (putK kvs x v) ps := rfl
    rw [e, putK_new h1, mergeK_new (by simpa using h)]
    simp
theorem pairs_ok {G : Hp} : ∀ {ds : List D} {ps : List (Key × D)} {vs : List V}, pairsD ds = some ps → Reps G ds vs →
    ∃ (as : List Addr) (kvs : List (Key × V)), vs = as.map V.ref ∧ kvs.map (·.1) = ps.map (·.1) ∧ Reps G (ps.map (·.2)) (kvs.map (·.2)) ∧ Paired (fun (p : Addr) (kv : Key × V) => G p = some (.tup [kV kv.1, kv.2])) as kvs
  | [], ps, vs, h, r => by
    cases h
    exact ⟨[], [], r.inv0, rfl, .nil, .nil⟩
  | d :: ds, ps, vs, h, r => by
    unfold pairsD at h
    split at h
    · rename_i heq
      cases heq
    · rename_i k d' ds' heq
      cases heq
      split at h
      · rename_i x hx
        obtain ⟨ps', h1, rfl⟩ := of_map h
        obtain ⟨v, vr, rfl, rv, rr⟩ := r.inv
        obtain ⟨as, kvs, rfl, hk, hr, hp⟩ := pairs_ok h1 rr
        obtain ⟨a, us, rfl, ga, ru⟩ := Rep.tup_iff.mp rv
        obtain ⟨u1, ur, rfl, ru1, rur⟩ := ru.inv
        obtain ⟨u2, ur2, rfl, ru2, rur2⟩ := rur.inv
        rw [rur2.inv0, keyD_ok ru1 hx] at ga
        exact ⟨a :: as, (x, u2) :: kvs, rfl, by simp [hk], .cons ru2 hr, .cons ga hp⟩
      · cases h
    · cases h
theorem ok_dct {K : PySem.W.Frag} : OkCN (fun xs H Q => ∃ (a : Addr) (ps : List Addr) (kvs : List (Key × V)), xs = [.ref a] ∧ SqL K H a (ps.map V.ref) ∧ Paired (fun p kv => SqT K H p [kV kv.1, kv.2]) ps kvs ∧ ∀ p, H p = none → Q (.ref p) (upd H p (.dK (mergeK [] kvs)))) (g1 hDct) := fun G H ds c vs Q s r h q => by
  unfold g1 at h
  split at h
  · rename_i d
    obtain ⟨v, r', rfl, rv, rr⟩ := r.inv
    rw [rr.inv0]
    unfold hDct at h
    cases d <;> simp only at h
    case lst ds =>
      split at h
      · rename_i ps hps
        split at h
        · rename_i hnd
          cases h
          obtain ⟨a, us, rfl, ga, ru⟩ := Rep.lst_iff.mp rv
          obtain ⟨as, kvs, rfl, hk, hr, hp⟩ := pairs_ok hps ru
          refine ⟨a, as, kvs, rfl, .of (s _ _ ga), Paired.mapP hp fun p kv z => .of (s _ _ z), fun l nl => q l _ nl ⟨kvs, ?_, hk, hr⟩⟩
          rw [mergeK_new (by simpa [hk] using hnd)]
          simp
        · cases h
      · cases h
    all_goals cases h
  · cases h

/-! ### repr -/
def reprOk (d : D) : Bool := py 40 d && (toPy d).showable && decide ((toPy d).shown.length ≤ sizeLine) && (match d with | .lst _ => true | .tup _ => true | _ => false)
def hRepr (d : D) : Option D := if reprOk d then some (.str (toPy d).shown) else none
def rRepr (K : PySem.W.Frag) : List V → Hp → VK → Prop := fun xs H Q => ∃ a d, xs = [.ref a] ∧ Dp K H (.ref a) d ∧ d.canLay0 = true ∧ d.depth ≤ 60 ∧ d.showable = true ∧ d.shown.length ≤ sizeLine ∧ Q (.str d.shown) H
theorem cr_repr (hg : X.A.guards = some []) (hu : X.A.units + 64 < cLine) : CallR X (.builtin "repr") (rRepr X.K) := fun pins s σ H xs us Q I r ⟨a, d, ex, hd, hl, hdp, hs, hz, q⟩ => by
  subst ex
  cases r with
  | cons r0 r1 =>
    cases r1
    have e : _ = Value.ref a := r0
    subst e
    obtain ⟨as, rd⟩ := Dp.reads I d (.ref a) (.ref a) hd rfl
    exact repr_of_reads' rd hs (PyData.noDict_hsm (PyData.hasDict_of_canLay d hl)) hg (by omega) (fun _ _ z => z) (fun h' u tk hk => ⟨.str d.shown, H, I.kept hk, ⟨_, rfl⟩, q⟩) hz
theorem ok_repr {K : PySem.W.Frag} : OkC (rRepr K) (g1 hRepr) := fun G H ds c vs Q s r h q => by
  unfold g1 at h
  split at h
  · rename_i d
    obtain ⟨v, r', rfl, rv, rr⟩ := r.inv
    rw [rr.inv0]
    unfold hRepr at h
    split at h
    · rename_i hr
      cases h
      unfold reprOk at hr
      simp only [Bool.and_eq_true, decide_eq_true_eq] at hr
      obtain ⟨⟨⟨h1, h2⟩, h3⟩, h4⟩ := hr
      obtain ⟨l1, l2⟩ := py_lay h1
      obtain ⟨a, rfl⟩ : ∃ a, v = .ref a := by
        cases d <;> simp at h4
        · obtain ⟨a, _, rfl, _⟩ := Rep.tup_iff.mp rv; exact ⟨a, rfl⟩
        · obtain ⟨a, _, rfl, _⟩ := Rep.lst_iff.mp rv; exact ⟨a, rfl⟩
      exact ⟨a, toPy d, rfl, py_dp s h1 rv, l1, by omega, h2, h3, q _ _ _ (.refl s) .str⟩
    · cases h
  · cases h
end

/-! ### a law's end: the def is told where no guard stands -/
/-- what a def promises where nothing is being shown (repr) -/
structure FnG (P : Program) (w : World) (K : PySem.W.Frag) (mg : Str → Option Value) (base : Heap) (k : Nat) (f : Addr) (fd : FuncData) (ps : List Str) (sp : Sp) : Prop where
  run : ∀ (A : Around) (outer : List PySem.Env) (s : Shared) (H : Hp) (args : Args) (us : List Value) (vs : List V) (Q : VK) (E : XK), A.guards = some [] → Room k A → Env0 P w K mg base A outer s H → BindsTo s fd args (ps.zip us) → Vals vs us → sp vs H Q E →
    codeAny (model P w) A (.call (.ref f) args) (CR CX0 outer P w H s Q E) s
/-- the script as the only thing that is tracked, with what lies beneath -/
theorem end_core {P : Program} {w : World} {K : PySem.W.Frag} {mg mb : Str → Option Value} {k : Nat} {fa a : Addr} {fd : FuncData} {x : Str} {sp : Sp} {s1 : Shared} {us : List Value} {ns : List Int} {H : Hp}
    (KX : K.In s1.heap) (hns : s1.heap.Ns mainGlobals mg) (hb : s1.heap.Ns builtinsNs mb) (hbb : ∀ x : Str, x ≠ "__name__" → mb x = bootBuiltins x) (hlim : s1.heap.NoLimit) (hg : s1.gens = #[])
    (ha : s1.heap.get? a = some { cls := .type "list", data := .seq us.toArray }) (hr : Room k callerA)
    (F : ∀ base : Heap, K.In base → base.Ns mainGlobals mg → FnG P w K mg base k fa fd [x] sp) (hbind : ∀ (s : Shared) (u : Value), BindsTo s fd ⟨[u], []⟩ [(x, u)])
    (hsp : sp [.ref a] H (fun v _ => v = .bl true) fun _ _ _ => False) (hO : Only H) (hok : HOk P w H s1.heap) (hA : ∀ b, H b ≠ none → b = a) (hK : H a ≠ none → K.lookup a = none) :
    codeAny (model P w) callerA (.call (.ref fa) ⟨[.ref a], []⟩) (fun r s' => r = .ok (.ret (.bool true)) ∧ OldK s1.heap s'.heap ∧ s'.os = s1.os ∧ AllBare s'.gens) s1 := by
  have notA : ∀ {b : Addr} {o : Obj} {es : Array DictEntry} {ep : Nat}, s1.heap.get? b = some o → o.data = .dict es ep → H b = none := by
    intro b o es ep e hd
    by_cases z : H b = none
    · exact z
    · have eb := hA b z
      rw [eb, ha] at e
      cases e
      exact nomatch hd
  have down : ∀ {b : Addr} {m : Str → Option Value}, s1.heap.Ns b m → (hidT s1.heap H).Ns b m := by
    intro b m h
    obtain ⟨o, es, ep, e, hd, rest⟩ := h
    exact ⟨o, es, ep, hidT_get e (notA e hd), hd, rest⟩
  have kin : K.In (hidT s1.heap H) := by
    intro b o e
    refine hidT_get (KX b o e) ?_
    by_cases z : H b = none
    · exact z
    · have eb := hA b z
      rw [eb] at e z
      rw [hK z] at e
      cases e
  have lim : (hidT s1.heap H).NoLimit := by
    obtain ⟨mc, l1, l2⟩ := hlim
    exact ⟨mc, down l1, l2⟩
  have md : Mod K mg (hidT s1.heap H) := ⟨kin, down hns, ⟨mb, down hb, hbb⟩, lim⟩
  have none0 : ∀ b, b ∉ frs ([] : List PySem.Env) := fun b hb => by cases hb
  have e0 : Env0 P w K mg (hidT s1.heap H) callerA [] s1 H := by
    refine ⟨rfl, md, ?_, ?_, trivial, ?_, hok, .of_eq hg⟩
    · intro b o e; exact of_hidT e
    · rw [hidT_size]; exact Nat.le_refl _
    · intro b hb; exact absurd hb (none0 b)
  refine codeAny_mono ((F _ kin (down hns)).run callerA [] s1 H ⟨[.ref a], []⟩ [.ref a] [.ref a] _ _ rfl hr e0 (hbind s1 (.ref a)) (.cons rfl .nil) hsp) ?_
  intro r s' hq
  match r, hq with
  | .error _, hq => exact hq.elim
  | .ok .next, hq => exact hq.elim
  | .ok .brk, hq => exact hq.elim
  | .ok .cont, hq => exact hq.elim
  | .ok (.ret u), ⟨v, H', os, bare, un, hok', rv, qv⟩ =>
    have ev : v = .bl true := qv
    subst ev
    have eu : u = Value.bool true := rv
    subst eu
    refine ⟨rfl, OldK.of_keep ?_, os, bare⟩
    intro b o e
    by_cases z : H b = none
    · exact un.keep b o e z (none0 b) (by simp)
    · rcases hO b with y | ⟨ob, xs, y⟩
      · exact absurd y z
      · have h1 : s1.heap.get? b = some ob := (hok b _ y).1
        have h2 : s'.heap.get? b = some ob := (hok' b _ (un.frzs b ob _ y)).1
        rw [e] at h1
        cases h1
        exact h2
theorem end_call {P : Program} {w : World} {K : PySem.W.Frag} {mg mb : Str → Option Value} {k : Nat} {fa a : Addr} {fd : FuncData} {x : Str} {sp : Sp} {s1 : Shared} {us : List Value} {ns : List Int}
    (KX : K.In s1.heap) (hns : s1.heap.Ns mainGlobals mg) (hb : s1.heap.Ns builtinsNs mb) (hbb : ∀ x : Str, x ≠ "__name__" → mb x = bootBuiltins x) (hlim : s1.heap.NoLimit) (hg : s1.gens = #[])
    (ha : s1.heap.get? a = some { cls := .type "list", data := .seq us.toArray }) (hi : IntsAre us ns) (hl : ns.length ≤ sizeLine) (hr : Room k callerA) (hno : K.lookup a = none)
    (F : ∀ base : Heap, K.In base → base.Ns mainGlobals mg → FnG P w K mg base k fa fd [x] sp) (hbind : ∀ (s : Shared) (u : Value), BindsTo s fd ⟨[u], []⟩ [(x, u)])
    (hsp : ∀ H : Hp, Rd H a (.lst (ns.map V.int)) → sp [.ref a] H (fun v _ => v = .bl true) fun _ _ _ => False) :
    codeAny (model P w) callerA (.call (.ref fa) ⟨[.ref a], []⟩) (fun r s' => r = .ok (.ret (.bool true)) ∧ OldK s1.heap s'.heap ∧ s'.os = s1.os ∧ AllBare s'.gens) s1 := by
  have rv := vals_ints hi
  let ob : Obj := { cls := .type "list", data := .seq us.toArray }
  let H : Hp := fun b => if b = a then some (.frz ob (.lst (ns.map V.int))) else none
  have Ha : H a = some (.frz ob (.lst (ns.map V.int))) := if_pos rfl
  have Hn : ∀ b, b ≠ a → H b = none := fun b hb => if_neg hb
  refine end_core (ns := ns) (H := H) KX hns hb hbb hlim hg ha hr F hbind (hsp H (.inr ⟨ob, Ha⟩)) (fun b => ?_) (fun b u z => ?_) (fun b z => ?_) fun _ => hno
  · by_cases hb : b = a
    · rw [hb]; exact .inr ⟨_, _, Ha⟩
    · exact .inl (Hn b hb)
  · by_cases hb : b = a
    · rw [hb, Ha] at z
      cases z
      rw [hb]
      exact ⟨ha, by simpa using hl, us, _, rv, ha⟩
    · rw [Hn b hb] at z; cases z
  · by_cases hb : b = a
    · exact hb
    · exact absurd (Hn b hb) z
/-- a def's body, where no guard stands -/
theorem fnG_of {P : Program} {w : World} {K : PySem.W.Frag} {mg : Str → Option Value} {base : Heap} {x qual : Str} {params : Arguments} {body : List Stmt} {scope : Scope} {dvs : List V} {kws : List (Str × V)} {f : Addr} {fd : FuncData} {N ps : List Str} {k : Nat} {sp : Sp}
    (D : FunD K x qual params body scope dvs kws f fd) (S : FnScope N ps scope) (len : ∀ vs H Q E, sp vs H Q E → vs.length = ps.length)
    (hb : ∀ (cdv : Value) (A : Around) (outer : List PySem.Env) (s : Shared) (H : Hp) (vs : List V) (Q : VK) (E : XK), A.guards = some [] → Room k (A.deeper (envOfC qual scope s.heap.objs.size f cdv)) → sp vs H Q E →
      ∃ t, PSs (cxOf CX0 P w K mg base N qual scope f cdv A outer s H E) body t ∧ t { nx := fun _ H' => Q .non H', rt := Q } (L2.start N vs) H) : FnG P w K mg base (k + 1) f fd ps sp := by
  obtain ⟨oc, od, dV, kV, doc, pm, an, cdv, ct, osl, efd, lk, hcd, _, _⟩ := D.ex
  subst efd
  constructor
  intro A outer s H args us vs Q E hG hr e0 bnd rel hsp
  have nvs := len vs H Q E hsp
  have kIn : K.In s.heap := e0.mod.kin.keeps fun b o q => (e0.bs b o q).1
  have nol : s.heap.NoLimit := e0.mod.nolimit.keeps fun b o q => (e0.bs b o q).1
  have kinds : ∀ y ∈ ps.zip us, scope.names.lookup y.1 = some .local ∨ (scope.names.lookup y.1 = some .cell ∧ ((cellsFrom (s.heap.objs.size + 1) scope.names []).lookup y.1).isSome = true) := by
    intro y hy
    obtain ⟨n, v⟩ := y
    have hn : n ∈ ps := (List.of_mem_zip hy).1
    cases S.par n hn with
    | inl q => exact Or.inl q
    | inr q => exact Or.inr ⟨q, PySem.W.cellsFrom_some _ _ _ (Or.inl q)⟩
  refine codeAny_call_function hr.depth (kIn _ _ lk) rfl S.co S.gen rfl (PySem.W.codeRec_of kIn hcd) (bnd _ _ _ _ ?_)
  refine wpAny_newFunctionEnv_cells S.kind kinds ?_
  intro env he s1 ic
  subst he
  refine ⟨nol.keeps ic.toInCall.keep, codeAny_func ?_⟩
  obtain ⟨t, ht, ok⟩ := hb cdv A outer s H vs Q E hG (hr.deeper _) hsp
  have J0 : Inv (cxOf CX0 P w K mg base N qual scope f cdv A outer s H E) [] (L2.start N vs) H s1 := inv_start S hr.hd e0 nvs rel ic
  refine wpAny_mono (ht.run [] s1 (L2.start N vs) H _ J0 ok) ?_ fun _ _ z => z
  intro fl s' z
  match fl, z with
  | .ret u, ⟨v, σ', H', J, r, q⟩ => exact ⟨v, H', J.os, J.bare, J.base, J.hok, r, q⟩
  | .next, ⟨σ', H', J, q⟩ => exact ⟨.non, H', J.os, J.bare, J.base, J.hok, rfl, q⟩
  | .brk, ⟨_, _, _, q⟩ => exact q.elim
  | .cont, ⟨_, _, _, q⟩ => exact q.elim
/-! ### the head, with one fact more: no list stands in the written part -/
def noL (K : PySem.W.Frag) : Bool := K.all fun p => match p.2.cls with
  | .type c => decide (c ≠ "list")
  | _ => true
theorem mem_look {α : Type} {a : Nat} {u : α} : ∀ {K : List (Nat × α)}, K.lookup a = some u → (a, u) ∈ K
  | [], h => by simp at h
  | (b, v) :: r, h => by
    rw [List.lookup_cons] at h
    by_cases e : a = b
    · subst e
      simp at h
      subst h
      exact List.mem_cons_self
    · rw [beq_eq_false_iff_ne.mpr e] at h
      exact List.mem_cons_of_mem _ (mem_look h)
theorem noL_ok {K : PySem.W.Frag} {h : Heap} {a : Addr} {o : Obj} (X : K.In h) (n : noL K = true) (e : h.get? a = some o) (c : o.cls = .type "list") : K.lookup a = none := by
  cases q : K.lookup a with
  | none => rfl
  | some u =>
    have e2 := X a u q
    rw [e] at e2
    cases e2
    have m := List.all_eq_true.mp n (a, o) (mem_look q)
    simp [c] at m
abbrev AlL : Type := Bool × He.AlD
def obsL (fa : List He.Fa) (fn : List He.DefD) (K : PySem.W.Frag) : AlL := (noL K, He.obsD fa fn K)
def obsLG (n : Nat) (fa : List He.Fa) (fn : List He.DefD) (g : Addr → Option Obj) : AlL := obsL fa fn (He.frG g (He.asD g n))
def hookL (n : Nat) (fa : List He.Fa) (fn : List He.DefD) : PySem.W.Hook where
  α := AlL
  obs := fun s => obsLG n fa fn s.heap.get?
  val := fun _ => (true, He.valD fn)
  says := fun _ h => ∃ K : PySem.W.Frag, K.In h ∧ noL K = true ∧ He.SaysD fa fn K
  of := fun _ _ e => ⟨_, He.frG_in, congrArg Prod.fst e, congrArg Prod.snd e⟩
  keeps := fun _ _ _ ⟨K, hK, n, c⟩ k => ⟨K, PySem.W.Frag.In.keeps hK k, n, c⟩
theorem obsLG_eq {n : Nat} {fa : List He.Fa} {fn : List He.DefD} {g : Addr → Option Obj} {s : Shared} (h : ∀ a, g a = s.heap.get? a) : obsLG n fa fn g = (hookL n fa fn).obs s := by
  have e : g = s.heap.get? := funext h
  subst e; rfl
/-- a law, from its def's promise -/
theorem law_end {l : PySem.W.OpenLaw} {n k : Nat} {q : Program} {loose : List Str} {XP : (Str → Option Value) → Heap → Prop} {YP : World → Heap → Prop} {d : DefRec} {x : Str}
    (hn : l.most = some n) (hn2 : n ≤ sizeLine) (hdf : d.params.defaults = []) (hr : Room k callerA)
    (F : ∀ (w : World) (mg : Str → Option Value) (fa : Addr) (h : Heap), YP w h → h.Ns mainGlobals mg → mg d.name = some (.ref fa) →
      ∃ (K : PySem.W.Frag) (fd : FuncData) (sp : Sp), K.In h ∧ noL K = true ∧ (∀ (s : Shared) (u : Value), BindsTo s fd ⟨[u], []⟩ [(x, u)]) ∧
        (∀ (H : Hp) (a : Addr) (ns : List Int), ns.length ≤ n → Rd H a (.lst (ns.map V.int)) → sp [.ref a] H (fun v _ => v = .bl true) fun _ _ _ => False) ∧
        ∀ base : Heap, K.In base → base.Ns mainGlobals mg → FnG l.prog w K mg base k fa fd [x] sp) : PySem.W.WalkO q loose XP YP l.row.toRowW d [] (fun f vs => PySem.call f vs) := by
  refine Att.attach_call hn hdf ?_
  intro w s0 s1 mg mb fa o pm cd doc a vs ns G Y _ _ _ hmg hobj hints hlen hg
  obtain ⟨K, fd, sp, KX, nl, hb, hsp, hF⟩ := F w mg fa _ Y G.T.g hmg
  exact end_call KX G.T.g G.T.b G.T.builtins G.T.nolimit hg hobj hints (Nat.le_trans hlen hn2) hr (noL_ok KX nl hobj rfl) hF hb fun H r => hsp H a ns hlen r
/-- the law's promise: at a script of ints it says True -/
def spLaw (n : Nat) : Sp := fun vs H Q _ => ∃ (a : Addr) (ns : List Int), vs = [.ref a] ∧ ns.length ≤ n ∧ Rd H a (.lst (ns.map V.int)) ∧ ∀ H', Q (.bl true) H'
theorem law_fn {P : Program} {w : World} {K : PySem.W.Frag} {mg : Str → Option Value} {base : Heap} {x qual y : Str} {params : Arguments} {body : List Stmt} {scope : Scope} {dvs : List V} {kws : List (Str × V)} {f : Addr} {fd : FuncData} {N : List Str} {k n : Nat} {F : Sx}
    (D : FunD K x qual params body scope dvs kws f fd) (S : FnScope N [y] scope)
    (h : ∀ (cdv : Value) (A : Around) (outer : List PySem.Env) (s : Shared) (H : Hp) (E : XK), A.guards = some [] → Room k (A.deeper (envOfC qual scope s.heap.objs.size f cdv)) → SB (cxOf CX0 P w K mg base N qual scope f cdv A outer s H E).nox false body F)
    (m : ∀ ns : List Int, ns.length ≤ n → F (startD N.length [.scr ns]) = some (.rt (.bl true))) : FnG P w K mg base (k + 1) f fd [y] (spLaw n) :=
  fnG_of D S (fun vs H Q E ⟨a, ns, e, _⟩ => by rw [e]; rfl) fun cdv A outer s H vs Q E hG hr ⟨a, ns, ev, hl, hrd, q⟩ => by
    refine ⟨_, (h cdv A outer s H E hG hr).nox, ?_⟩
    subst ev
    exact ⟨H, H, H, _, _, sta_start (fun _ _ z => z) (.cons (Rep.scr_iff.mpr ⟨a, rfl, hrd⟩) .nil), m ns hl, fun v G' H' ⟨l, r⟩ => by
      have r' : Rep G' (.bl true) v := by simpa using r
      rw [Rep.bl_iff.mp r']
      exact q H'⟩
end DL

/-! DL8: what the printed derivations lean on. -/
namespace DL
open PySem PySem.Spec PyProof.Rows L2
def gInL (d e : D) : Option D := match e with
  | .set _ _ => none
  | _ => gIn d e
def gNotInL (d e : D) : Option D := match e with
  | .set _ _ => none
  | _ => gNotIn d e
theorem ok_inL {K : PySem.W.Frag} {w : World} : OkS (rMem K w) gInL := ok_in
theorem ok_notInL {K : PySem.W.Frag} {w : World} : OkS (rNotMem K w) gNotInL := ok_notIn
theorem hu65_of {A : Around} {k : Nat} (hr : Room k A) : A.units + 65 < cLine := by
  have := hr.un
  omega
/-- a def that stands under its name and keeps its promise -/
structure Fnd (P : Program) (w : World) (K : PySem.W.Frag) (mg : Str → Option Value) (base : Heap) (k : Nat) (x : Str) (ps : List Str) (sp : Sp) : Prop where
  ex : ∃ (fa : Addr) (fd : FuncData), mg x = some (.ref fa) ∧ PySem.W.keepIn K (.ref fa) = true ∧ Binds K fd ps [] ∧ FnOk P w K mg base CX0 k fa fd ps sp
theorem Fnd.mk' {P : Program} {w : World} {K : PySem.W.Frag} {mg : Str → Option Value} {base : Heap} {k : Nat} {x : Str} {ps : List Str} {sp : Sp} {fa : Addr} {fd : FuncData} (h1 : mg x = some (.ref fa)) (h2 : PySem.W.keepIn K (.ref fa) = true) (h3 : Binds K fd ps []) (h4 : FnOk P w K mg base CX0 k fa fd ps sp) :
    Fnd P w K mg base k x ps sp := ⟨fa, fd, h1, h2, h3, h4⟩
theorem Fnd.up {P : Program} {w : World} {K : PySem.W.Frag} {mg : Str → Option Value} {base : Heap} {j k : Nat} {x : Str} {ps : List Str} {sp : Sp} (F : Fnd P w K mg base j x ps sp) (h : j ≤ k) : Fnd P w K mg base k x ps sp := by
  obtain ⟨fa, fd, h1, h2, h3, h4⟩ := F.ex
  exact ⟨fa, fd, h1, h2, h3, h4.mono h⟩
section
variable {X : Cx} {e a b : Expr} {pos p : Pos} {x : Str} {es : List Expr} {g : List D → Option D} {f : Ax} {k : Nat} {ps : List Str}
theorem x_call (F : Fnd X.prog X.w X.K X.mg X.base k x ps (spV false g)) (hr : Room k X.A) (hg : Gl X x) (ha : QA X (e :: es) f) (hdb : (x == ("__debug__" : Str)) = false := by decide)
    (he : starEach (e :: es) X.env = (false, eval e X.env) :: starEach es X.env := by rfl) (hpl : (backTo pos (starEach es X.env)).any (·.1) = false := by rfl) : PX X (.Call (.Name x p) (e :: es) [] pos) (eCall g f) := by
  obtain ⟨fa, fd, h1, h2, h3, h4⟩ := F.ex
  exact x_fn h4 hr hg h1 h2 h3 pass0 ha hdb he hpl
theorem x_callN (F : Fnd X.prog X.w X.K X.mg X.base k x ps (spV true g)) (hr : Room k X.A) (hg : Gl X x) (ha : QA X (e :: es) f) (hdb : (x == ("__debug__" : Str)) = false := by decide)
    (he : starEach (e :: es) X.env = (false, eval e X.env) :: starEach es X.env := by rfl) (hpl : (backTo pos (starEach es X.env)).any (·.1) = false := by rfl) : PX X (.Call (.Name x p) (e :: es) [] pos) (eCall g f) := by
  obtain ⟨fa, fd, h1, h2, h3, h4⟩ := F.ex
  exact x_fn (own_val h4) hr hg h1 h2 h3 pass0 ha hdb he hpl
theorem n_call (F : Fnd X.prog X.w X.K X.mg X.base k x ps (spV true g)) (hr : Room k X.A) (hg : Gl X x) (ha : QA X (e :: es) f) (hdb : (x == ("__debug__" : Str)) = false := by decide)
    (he : starEach (e :: es) X.env = (false, eval e X.env) :: starEach es X.env := by rfl) (hpl : (backTo pos (starEach es X.env)).any (·.1) = false := by rfl) : PN X (.Call (.Name x p) (e :: es) [] pos) (eCall g f) := by
  obtain ⟨fa, fd, h1, h2, h3, h4⟩ := F.ex
  exact n_fn h4 hr hg h1 h2 h3 pass0 ha hdb he hpl
/-! ### operators that make a new list -/
def OkSN (r : R2) (g : D → D → Option D) : Prop := ∀ (G H : Hp) (d e c : D) (x y : V) (Q : VK), Sm G H → Rep G d x → Rep G e y → g d e = some c → (∀ p o, H p = none → Holds G p c o → Q (.ref p) (upd H p o)) → r x y H Q
theorem n_op {op : Operator} {r : R2} {g : D → D → Option D} {fa fb : Ex} (ho : OpR X (binaryOp op) r) (ok : OkSN r g) (ha : PX X a fa) (hb : PX X b fb) : PN X (.BinOp a op b pos) (eBin g fa fb) :=
  L2.PE.weak (pe_op ho ha hb) fun σ H Q ⟨B, Bg, G, ρ, c, ρ', S, hf, q⟩ => by
    obtain ⟨d, ρ1, e, h1, h2, h3⟩ := eBin_inv hf
    refine ⟨B, Bg, G, ρ, d, ρ1, S, h1, fun x G1 H1 S1 T1 r1 => ?_⟩
    refine ⟨B, Bg, G1, ρ1, e, ρ', S1, h2, fun y G2 H2 S2 T2 r2 => ?_⟩
    refine ok G2 H2 d e c x y Q S2.sub (r1.mono T2.g) r2 h3 fun p o np ho => ?_
    obtain ⟨S3, T3, o3⟩ := own_new S2 np ho
    exact q _ _ _ S3 ((T1.trans T2).trans T3) o3 fun a' ea => by cases ea; exact stp_none (T1.trans T2) np
def gAddN (d e : D) : Option D := match d, e with
  | .lst ds, .lst es => if ds.length + es.length ≤ sizeLine then some (.lst (ds ++ es)) else none
  | _, _ => none
theorem ok_addN : OkSN rCat gAddN := fun G H d e c x y Q s rx ry h q => by
  unfold gAddN at h; split at h
  · split at h
    · rename_i hl
      cases h
      obtain ⟨a, vs, rfl, ga, r1⟩ := Rep.lst_iff.mp rx
      obtain ⟨b, us, rfl, gb, r2⟩ := Rep.lst_iff.mp ry
      exact ⟨a, b, vs, us, rfl, rfl, s _ _ ga, s _ _ gb, by rw [← r1.length, ← r2.length]; exact hl, fun p np => q p _ np ⟨_, rfl, r1.append r2⟩⟩
    · cases h
  · cases h
def gMulN (d e : D) : Option D := match d, e with
  | .lst ds, .int j => if decide (j < 2 ^ 63) && decide (-(2 ^ 63) ≤ j) && decide (ds.length * j.toNat ≤ sizeLine) then some (.lst (List.replicate j.toNat ds).flatten) else none
  | _, _ => none
theorem ok_mulN : OkSN rRep gMulN := fun G H d e c x y Q s rx ry h q => by
  unfold gMulN at h; split at h
  · rename_i ds j
    split at h
    · rename_i hl
      cases h
      simp only [Bool.and_eq_true, decide_eq_true_eq] at hl
      obtain ⟨a, vs, rfl, ga, r1⟩ := Rep.lst_iff.mp rx
      exact ⟨a, j, vs, rfl, Rep.int_iff.mp ry, s _ _ ga, hl.1.2, hl.1.1, by rw [← r1.length]; exact hl.2, fun p np => q p _ np ⟨_, rfl, r1.rep _⟩⟩
    · cases h
  · cases h
end
end DL

/-! DM: how readings are reckoned: loops, comprehensions, amounts. -/
namespace DL
open PySem PySem.Spec PyProof.Rows L2

/-! ### loops -/
/-- one turn of a for -/
def turnD (g : Gx) (F : Sx) (d : D) (ρ : Env) : Option Out := match g d ρ with
  | some ρ1 => F ρ1
  | none => none
theorem forD_cons {g : Gx} {F : Sx} {d : D} {ds : List D} {ρ : Env} : forD g F (d :: ds) ρ = (match turnD g F d ρ with
    | some (.nx ρ2) => forD g F ds ρ2
    | some (.ct ρ2) => forD g F ds ρ2
    | some (.bk ρ2) => some (.nx ρ2)
    | some (.rt d) => some (.rt d)
    | none => none) := by
  simp only [forD, turnD]
  cases g d ρ <;> rfl
theorem forD_nil {g : Gx} {F : Sx} {ρ : Env} : forD g F [] ρ = some (.nx ρ) := rfl
theorem forD_nx {g : Gx} {F : Sx} {d : D} {ds : List D} {ρ ρ2 : Env} (h : turnD g F d ρ = some (.nx ρ2)) : forD g F (d :: ds) ρ = forD g F ds ρ2 := by rw [forD_cons, h]
theorem forD_ct {g : Gx} {F : Sx} {d : D} {ds : List D} {ρ ρ2 : Env} (h : turnD g F d ρ = some (.ct ρ2)) : forD g F (d :: ds) ρ = forD g F ds ρ2 := by rw [forD_cons, h]
theorem forD_rt {g : Gx} {F : Sx} {d r : D} {ds : List D} {ρ : Env} (h : turnD g F d ρ = some (.rt r)) : forD g F (d :: ds) ρ = some (.rt r) := by rw [forD_cons, h]
theorem forD_bk {g : Gx} {F : Sx} {d : D} {ds : List D} {ρ ρ2 : Env} (h : turnD g F d ρ = some (.bk ρ2)) : forD g F (d :: ds) ρ = some (.nx ρ2) := by rw [forD_cons, h]
/-- a loop that runs through: St says what the slots are, by what has been gathered -/
theorem forD_fold {α β : Type} {g : Gx} {F : Sx} (enc : α → D) (St : β → Env → Prop) (step : β → α → β) : ∀ (xs : List α) (b : β) (ρ : Env), St b ρ →
    (∀ b x ρ, x ∈ xs → St b ρ → ∃ ρ', turnD g F (enc x) ρ = some (.nx ρ') ∧ St (step b x) ρ') → ∃ ρ', forD g F (xs.map enc) ρ = some (.nx ρ') ∧ St (xs.foldl step b) ρ'
  | [], b, ρ, h, _ => ⟨ρ, rfl, h⟩
  | x :: xs, b, ρ, h, ht => by
    obtain ⟨ρ1, h1, h2⟩ := ht b x ρ List.mem_cons_self h
    obtain ⟨ρ2, h3, h4⟩ := forD_fold enc St step xs (step b x) ρ1 h2 fun b y ρ hy => ht b y ρ (List.mem_cons_of_mem _ hy)
    exact ⟨ρ2, by rw [List.map_cons, forD_nx h1, h3], h4⟩
/-- a loop that leaves at the first item that P tells, with r -/
theorem forD_find {α : Type} {g : Gx} {F : Sx} {r : D} (enc : α → D) (St : Env → Prop) (P : α → Bool) : ∀ (xs : List α) (ρ : Env), St ρ →
    (∀ x ρ, x ∈ xs → St ρ → (P x = true ∧ turnD g F (enc x) ρ = some (.rt r)) ∨ (P x = false ∧ ∃ ρ', turnD g F (enc x) ρ = some (.nx ρ') ∧ St ρ')) →
    (xs.any P = true ∧ forD g F (xs.map enc) ρ = some (.rt r)) ∨ (xs.any P = false ∧ ∃ ρ', forD g F (xs.map enc) ρ = some (.nx ρ') ∧ St ρ')
  | [], ρ, h, _ => .inr ⟨rfl, ρ, rfl, h⟩
  | x :: xs, ρ, h, ht => by
    rcases ht x ρ List.mem_cons_self h with ⟨h1, h2⟩ | ⟨h1, ρ1, h2, h3⟩
    · exact .inl ⟨by simp [h1], by rw [List.map_cons, forD_rt h2]⟩
    · rcases forD_find enc St P xs ρ1 h3 fun y ρ hy => ht y ρ (List.mem_cons_of_mem _ hy) with ⟨h4, h5⟩ | ⟨h4, ρ2, h5, h6⟩
      · exact .inl ⟨by simp [h4], by rw [List.map_cons, forD_nx h2, h5]⟩
      · exact .inr ⟨by simp [h1, h4], ρ2, by rw [List.map_cons, forD_nx h2, h5], h6⟩

/-! ### comprehensions -/
theorem backD_eq {vs : List Nat} {ρ0 ρ : Env} (hl : ρ.length = ρ0.length) (h : unD vs ρ = unD vs ρ0) : backD vs ρ0 ρ = ρ0 := by
  apply List.ext_getElem?
  intro i
  by_cases hi : i ∈ vs
  · exact backD_in hl.symm hi
  · rw [backD_out hi, ← unD_out hi, h, unD_out hi]
theorem compD_eq {α : Type} {vs : List Nat} {g : Gx} {t : Tx} {f : Ex} (enc : α → D) (P : α → Bool) (h : α → D) (ρ0 : Env) : ∀ (xs : List α) (ρ : Env), unD vs ρ = unD vs ρ0 →
    (∀ x ∈ xs, ∃ ρ2 ρ3, g (enc x) (unD vs ρ0) = some ρ2 ∧ t ρ2 = some (P x, ρ3) ∧ unD vs ρ3 = unD vs ρ0 ∧ (P x = true → ∃ ρ4, f ρ3 = some (h x, ρ4) ∧ unD vs ρ4 = unD vs ρ0)) →
    ∃ ρ', compD vs g t f (xs.map enc) ρ = some ((xs.filter P).map h, ρ') ∧ unD vs ρ' = unD vs ρ0
  | [], ρ, e, _ => ⟨ρ, rfl, e⟩
  | x :: xs, ρ, e, ht => by
    obtain ⟨ρ2, ρ3, h1, h2, h3, h4⟩ := ht x List.mem_cons_self
    have ih := fun ρ e => compD_eq enc P h ρ0 xs ρ e fun y hy => ht y (List.mem_cons_of_mem _ hy)
    simp only [List.map_cons, compD]
    rw [e, h1]
    simp only [h2]
    cases hP : P x with
    | true =>
      obtain ⟨ρ4, h5, h6⟩ := h4 hP
      obtain ⟨ρ5, h7, h8⟩ := ih ρ4 h6
      simp only [h5, h7]
      exact ⟨ρ5, by simp [hP], h8⟩
    | false =>
      obtain ⟨ρ5, h7, h8⟩ := ih ρ3 h3
      simp only [h7]
      exact ⟨ρ5, by simp [hP], h8⟩
theorem unD_len {vs : List Nat} {ρ ρ0 : Env} (h : unD vs ρ = unD vs ρ0) : ρ.length = ρ0.length := by
  rw [← unD_length vs ρ, h, unD_length]
theorem eComp_eq {α : Type} {vs : List Nat} {fi : Ax} {g : Gx} {t : Tx} {f : Ex} (enc : α → D) (P : α → Bool) (h : α → D) {xs : List α} {ρ ρ1 : Env} (hfi : fi ρ = some (xs.map enc, ρ1)) (hl : xs.length ≤ 100000) (hno : noOw vs ρ1 = true)
    (ht : ∀ x ∈ xs, ∃ ρ2 ρ3, g (enc x) (unD vs ρ1) = some ρ2 ∧ t ρ2 = some (P x, ρ3) ∧ unD vs ρ3 = unD vs ρ1 ∧ (P x = true → ∃ ρ4, f ρ3 = some (h x, ρ4) ∧ unD vs ρ4 = unD vs ρ1)) :
    eComp vs fi g t f ρ = some (.lst ((xs.filter P).map h), ρ1) := by
  obtain ⟨ρ', h1, h2⟩ := compD_eq enc P h ρ1 xs ρ1 rfl ht
  unfold eComp
  rw [hfi]
  simp only [List.length_map, hl, hno, and_self, if_true, h1]
  rw [backD_eq (unD_len h2) h2]
/-- .. without a test -/
theorem eComp_map {α : Type} {vs : List Nat} {fi : Ax} {g : Gx} {f : Ex} (enc : α → D) (h : α → D) {xs : List α} {ρ ρ1 : Env} (hfi : fi ρ = some (xs.map enc, ρ1)) (hl : xs.length ≤ 100000) (hno : noOw vs ρ1 = true)
    (ht : ∀ x ∈ xs, ∃ ρ2, g (enc x) (unD vs ρ1) = some ρ2 ∧ unD vs ρ2 = unD vs ρ1 ∧ ∃ ρ4, f ρ2 = some (h x, ρ4) ∧ unD vs ρ4 = unD vs ρ1) :
    eComp vs fi g xYes f ρ = some (.lst (xs.map h), ρ1) := by
  rw [eComp_eq enc (fun _ => true) h hfi hl hno fun x hx => ?_]
  · rw [List.filter_eq_self.mpr (fun _ _ => rfl)]
  · obtain ⟨ρ2, h1, h2, h3⟩ := ht x hx
    exact ⟨ρ2, ρ2, h1, rfl, h2, fun _ => h3⟩

/-! ### whiles -/
theorem while_step {c : Tx} {F : Sx} {n : Nat} {ρ ρ1 ρ2 : Env} (h : c ρ = some (true, ρ1)) (h2 : F ρ1 = some (.nx ρ2)) : whileD c F (n + 1) ρ = whileD c F n ρ2 := by simp only [whileD, h, h2]
theorem while_end {c : Tx} {F : Sx} {n : Nat} {ρ ρ1 : Env} (h : c ρ = some (false, ρ1)) : whileD c F (n + 1) ρ = some (.nx ρ1) := by simp only [whileD, h]
theorem while_rt {c : Tx} {F : Sx} {n : Nat} {ρ ρ1 : Env} {d : D} (h : c ρ = some (true, ρ1)) (h2 : F ρ1 = some (.rt d)) : whileD c F (n + 1) ρ = some (.rt d) := by simp only [whileD, h, h2]

/-! ### amounts -/
abbrev Amt := Option Int
def am : Amt → D
  | none => .non
  | some i => .int i
def atMost : Amt → Amt → Bool
  | _, none => true
  | none, some _ => false
  | some i, some j => decide (i ≤ j)
theorem am_inj {a b : Amt} (h : am a = am b) : a = b := by
  cases a <;> cases b <;> simp_all [am]
/-! ### plain values -/
def dInts (ns : List Int) : D := .lst (ns.map D.int)
theorem runF_rt {n np : Nat} {F : Sx} {ds : List D} {d : D} (hl : ds.length = np) (h : F (startD n ds) = some (.rt d)) : runF n np F ds = some d := by
  unfold runF; rw [if_pos hl, h]
theorem runN_rt {n np : Nat} {F : Sx} {ds : List D} {d : D} (hl : ds.length = np) (h : F (startD n ds) = some (.rt d)) : runN n np F ds = some d := by
  unfold runN; rw [if_pos hl, h]
theorem ixD_nat {n i : Nat} (h : i < n) : ixD n (i : Int) = some i := by
  unfold ixD
  rw [if_pos (by omega), if_pos (by omega)]
  simp
theorem ixD_int {n : Nat} {i : Int} (h0 : 0 ≤ i) (h : i < n) : ixD n i = some i.toNat := by
  unfold ixD
  rw [if_pos h0, if_pos h]
end DL

/-! DE: readings reckoned step by step: each rule opens one reading where its slots are known. -/
namespace DL
open PySem PySem.Spec PyProof.Rows L2
namespace Ev
section
variable {ρ ρ1 ρ2 : Env} {d e c : D} {ds es : List D} {i j : Nat} {b : Bool}
/-! ### the slots -/
def kVar (i : Nat) (ρ : Env) : Option Sl → Option (D × Env)
  | some (.fz d) => some (d, ρ)
  | some (.ow d) => some (d, ρ.set i (.fz d))
  | _ => none
theorem eVar_ap : eVar i ρ = kVar i ρ ρ[i]? := by
  unfold eVar kVar
  cases ρ[i]? with
  | none => rfl
  | some s => cases s <;> rfl
theorem kVar_fz : kVar i ρ (some (.fz d)) = some (d, ρ) := rfl
theorem kVar_ow : kVar i ρ (some (.ow d)) = some (d, ρ.set i (.fz d)) := rfl
theorem eC_ap : eC d ρ = some (d, ρ) := rfl
/-! ### two places -/
def kOut (o : Option D) (ρ : Env) : Option (D × Env) := match o with
  | some c => some (c, ρ)
  | none => none
theorem kOut_some : kOut (some c) ρ = some (c, ρ) := rfl
def kBin2 (g : D → D → Option D) (d : D) : Option (D × Env) → Option (D × Env)
  | some (e, ρ) => kOut (g d e) ρ
  | none => none
def kBin (g : D → D → Option D) (fb : Ex) : Option (D × Env) → Option (D × Env)
  | some (d, ρ) => kBin2 g d (fb ρ)
  | none => none
variable {g : D → D → Option D} {fa fb fc : Ex}
theorem eBin_ap : eBin g fa fb ρ = kBin g fb (fa ρ) := by
  unfold eBin kBin
  cases fa ρ with
  | none => rfl
  | some p =>
    obtain ⟨d, ρ1⟩ := p
    simp only [kBin2]
    cases fb ρ1 with
    | none => rfl
    | some q =>
      obtain ⟨e, ρ2⟩ := q
      simp only [kOut]
      all_goals cases g d e <;> rfl
theorem kBin_some : kBin g fb (some (d, ρ)) = kBin2 g d (fb ρ) := rfl
theorem kBin2_some : kBin2 g d (some (e, ρ)) = kOut (g d e) ρ := rfl
def kB : Option (D × Env) → Option (Bool × Env)
  | some (.bl b, ρ) => some (b, ρ)
  | _ => none
theorem xB_ap {f : Ex} : xB f ρ = kB (f ρ) := by
  unfold xB kB
  cases f ρ with
  | none => rfl
  | some p => obtain ⟨d, ρ1⟩ := p; cases d <;> rfl
theorem kB_some : kB (some (.bl b, ρ)) = some (b, ρ) := rfl
/-! ### chains -/
def kCh4 : Option D → Env → Option (D × Env)
  | some (.bl c), ρ => some (.bl c, ρ)
  | _, _ => none
def kCh3 (g' : D → D → Option D) (e : D) : Option (D × Env) → Option (D × Env)
  | some (k, ρ) => kCh4 (g' e k) ρ
  | none => none
def kCh2 (g' : D → D → Option D) (fc : Ex) (e : D) (ρ : Env) : Option D → Option (D × Env)
  | some (.bl true) => kCh3 g' e (fc ρ)
  | some (.bl false) => some (.bl false, ρ)
  | _ => none
def kCh1 (g g' : D → D → Option D) (fc : Ex) (d : D) : Option (D × Env) → Option (D × Env)
  | some (e, ρ) => kCh2 g' fc e ρ (g d e)
  | none => none
def kCh (g g' : D → D → Option D) (fb fc : Ex) : Option (D × Env) → Option (D × Env)
  | some (d, ρ) => kCh1 g g' fc d (fb ρ)
  | none => none
theorem eChain_ap {g' : D → D → Option D} : eChain g g' fa fb fc ρ = kCh g g' fb fc (fa ρ) := by
  unfold eChain kCh
  cases fa ρ with
  | none => rfl
  | some p =>
    obtain ⟨d, ρ1⟩ := p
    simp only [kCh1]
    cases fb ρ1 with
    | none => rfl
    | some q =>
      obtain ⟨e, ρ2⟩ := q
      simp only [kCh2]
      cases g d e with
      | none => rfl
      | some x =>
        cases x with
        | bl b =>
          cases b with
          | false => rfl
          | true =>
            simp only [kCh3]
            cases fc ρ2 with
            | none => rfl
            | some r =>
              obtain ⟨k, ρ3⟩ := r
              simp only [kCh4]
              cases g' e k with
              | none => rfl
              | some y => cases y <;> rfl
        | _ => rfl
theorem kCh_some {g' : D → D → Option D} : kCh g g' fb fc (some (d, ρ)) = kCh1 g g' fc d (fb ρ) := rfl
theorem kCh1_some {g' : D → D → Option D} : kCh1 g g' fc d (some (e, ρ)) = kCh2 g' fc e ρ (g d e) := rfl
theorem kCh2_t {g' : D → D → Option D} : kCh2 g' fc e ρ (some (.bl true)) = kCh3 g' e (fc ρ) := rfl
theorem kCh2_f {g' : D → D → Option D} : kCh2 g' fc e ρ (some (.bl false)) = some (.bl false, ρ) := rfl
theorem kCh3_some {g' : D → D → Option D} : kCh3 g' e (some (d, ρ)) = kCh4 (g' e d) ρ := rfl
theorem kCh4_some : kCh4 (some (.bl b)) ρ = some (.bl b, ρ) := rfl
/-! ### truth -/
def kTru2 : Option Bool → Env → Option (Bool × Env)
  | some b, ρ => some (b, ρ)
  | none, _ => none
def kTru : Option (D × Env) → Option (Bool × Env)
  | some (d, ρ) => kTru2 (truD d) ρ
  | none => none
theorem xTru_ap {f : Ex} : xTru f ρ = kTru (f ρ) := by
  unfold xTru kTru
  cases f ρ with
  | none => rfl
  | some p =>
    obtain ⟨d, ρ1⟩ := p
    simp only [kTru2]
    cases truD d <;> rfl
theorem kTru_some : kTru (some (d, ρ)) = kTru2 (truD d) ρ := rfl
theorem kTru2_some : kTru2 (some b) ρ = some (b, ρ) := rfl
theorem truD_non : truD .non = some false := rfl
theorem truD_bl : truD (.bl b) = some b := rfl
theorem truD_int {i : Int} : truD (.int i) = some (i != 0) := rfl
theorem truD_lst : truD (.lst ds) = some (!ds.isEmpty) := rfl
theorem truD_tup : truD (.tup ds) = some (!ds.isEmpty) := rfl
def kAnd (g : Tx) : Option (Bool × Env) → Option (Bool × Env)
  | some (true, ρ) => g ρ
  | some (false, ρ) => some (false, ρ)
  | none => none
def kOr (g : Tx) : Option (Bool × Env) → Option (Bool × Env)
  | some (true, ρ) => some (true, ρ)
  | some (false, ρ) => g ρ
  | none => none
def kNot : Option (Bool × Env) → Option (Bool × Env)
  | some (b, ρ) => some (!b, ρ)
  | none => none
variable {p q : Tx}
theorem xAnd_ap : xAnd p q ρ = kAnd q (p ρ) := by
  unfold xAnd kAnd
  cases p ρ with
  | none => rfl
  | some r => obtain ⟨b, ρ1⟩ := r; cases b <;> rfl
theorem xOr_ap : xOr p q ρ = kOr q (p ρ) := by
  unfold xOr kOr
  cases p ρ with
  | none => rfl
  | some r => obtain ⟨b, ρ1⟩ := r; cases b <;> rfl
theorem xNot_ap : xNot p ρ = kNot (p ρ) := by
  unfold xNot kNot
  cases p ρ with
  | none => rfl
  | some r => rfl
theorem kAnd_t : kAnd q (some (true, ρ)) = q ρ := rfl
theorem kAnd_f : kAnd q (some (false, ρ)) = some (false, ρ) := rfl
theorem kOr_t : kOr q (some (true, ρ)) = some (true, ρ) := rfl
theorem kOr_f : kOr q (some (false, ρ)) = q ρ := rfl
theorem kNot_some : kNot (some (b, ρ)) = some (!b, ρ) := rfl
def kEAnd2 (g : Ex) (d : D) (ρ : Env) : Option Bool → Option (D × Env)
  | some true => g ρ
  | some false => some (d, ρ)
  | none => none
def kEAnd (g : Ex) : Option (D × Env) → Option (D × Env)
  | some (d, ρ) => kEAnd2 g d ρ (truD d)
  | none => none
def kEOr2 (g : Ex) (d : D) (ρ : Env) : Option Bool → Option (D × Env)
  | some true => some (d, ρ)
  | some false => g ρ
  | none => none
def kEOr (g : Ex) : Option (D × Env) → Option (D × Env)
  | some (d, ρ) => kEOr2 g d ρ (truD d)
  | none => none
def kENot2 (ρ : Env) : Option Bool → Option (D × Env)
  | some b => some (.bl (!b), ρ)
  | none => none
def kENot : Option (D × Env) → Option (D × Env)
  | some (d, ρ) => kENot2 ρ (truD d)
  | none => none
theorem eAnd_ap : eAnd fa fb ρ = kEAnd fb (fa ρ) := by
  unfold eAnd kEAnd
  cases fa ρ with
  | none => rfl
  | some r =>
    obtain ⟨d, ρ1⟩ := r
    simp only [kEAnd2]
    all_goals cases truD d with
    | none => rfl
    | some b => cases b <;> rfl
theorem eOr_ap : eOr fa fb ρ = kEOr fb (fa ρ) := by
  unfold eOr kEOr
  cases fa ρ with
  | none => rfl
  | some r =>
    obtain ⟨d, ρ1⟩ := r
    simp only [kEOr2]
    all_goals cases truD d with
    | none => rfl
    | some b => cases b <;> rfl
theorem eNot_ap : eNot fa ρ = kENot (fa ρ) := by
  unfold eNot kENot
  cases fa ρ with
  | none => rfl
  | some r =>
    obtain ⟨d, ρ1⟩ := r
    simp only [kENot2]
    all_goals cases truD d <;> rfl
theorem kEAnd_some : kEAnd fb (some (d, ρ)) = kEAnd2 fb d ρ (truD d) := rfl
theorem kEAnd2_t : kEAnd2 fb d ρ (some true) = fb ρ := rfl
theorem kEAnd2_f : kEAnd2 fb d ρ (some false) = some (d, ρ) := rfl
theorem kEOr_some : kEOr fb (some (d, ρ)) = kEOr2 fb d ρ (truD d) := rfl
theorem kEOr2_t : kEOr2 fb d ρ (some true) = some (d, ρ) := rfl
theorem kEOr2_f : kEOr2 fb d ρ (some false) = fb ρ := rfl
theorem kENot_some : kENot (some (d, ρ)) = kENot2 ρ (truD d) := rfl
theorem kENot2_some : kENot2 ρ (some b) = some (.bl (!b), ρ) := rfl
def kEIf (f g : Ex) : Option (Bool × Env) → Option (D × Env)
  | some (true, ρ) => f ρ
  | some (false, ρ) => g ρ
  | none => none
theorem eIf_ap : eIf p fa fb ρ = kEIf fa fb (p ρ) := by
  unfold eIf kEIf
  cases p ρ with
  | none => rfl
  | some r => obtain ⟨b, ρ1⟩ := r; cases b <;> rfl
theorem kEIf_t : kEIf fa fb (some (true, ρ)) = fa ρ := rfl
theorem kEIf_f : kEIf fa fb (some (false, ρ)) = fb ρ := rfl
/-! ### looks -/
def kBor (ρ : Env) : Option (D × Env) → Option (D × Env)
  | some (d, _) => if scal d then some (d, ρ) else none
  | none => none
theorem eBor_ap {f : Ex} : eBor f ρ = kBor ρ (f (ρ.map Sl.fzd)) := by
  unfold eBor kBor
  cases f (ρ.map Sl.fzd) <;> rfl
theorem kBor_int {i : Int} : kBor ρ (some (.int i, ρ1)) = some (.int i, ρ) := rfl
theorem kBor_bl : kBor ρ (some (.bl b, ρ1)) = some (.bl b, ρ) := rfl
theorem kBor_non : kBor ρ (some (.non, ρ1)) = some (.non, ρ) := rfl
theorem kBor_am {a : Amt} : kBor ρ (some (am a, ρ1)) = some (am a, ρ) := by cases a <;> rfl
def kXBor (ρ : Env) : Option (Bool × Env) → Option (Bool × Env)
  | some (d, _) => some (d, ρ)
  | none => none
theorem xBor_ap : xBor p ρ = kXBor ρ (p (ρ.map Sl.fzd)) := by
  unfold xBor kXBor
  cases p (ρ.map Sl.fzd) <;> rfl
theorem kXBor_some : kXBor ρ (some (b, ρ1)) = some (b, ρ) := rfl
theorem fzd_fz : Sl.fzd (.fz d) = .fz d := rfl
theorem fzd_ow : Sl.fzd (.ow d) = .fz d := rfl
theorem fzd_un : Sl.fzd .un = .un := rfl
/-! ### lists of expressions -/
def kCons2 (d : D) : Option (List D × Env) → Option (List D × Env)
  | some (ds, ρ) => some (d :: ds, ρ)
  | none => none
def kCons (g : Ax) : Option (D × Env) → Option (List D × Env)
  | some (d, ρ) => kCons2 d (g ρ)
  | none => none
variable {ga : Ax}
theorem aNil_ap : aNil ρ = some ([], ρ) := rfl
theorem aCons_ap : aCons fa ga ρ = kCons ga (fa ρ) := by
  unfold aCons kCons
  cases fa ρ with
  | none => rfl
  | some r =>
    obtain ⟨d, ρ1⟩ := r
    simp only [kCons2]
    all_goals cases ga ρ1 <;> rfl
theorem kCons_some : kCons ga (some (d, ρ)) = kCons2 d (ga ρ) := rfl
theorem kCons2_some : kCons2 d (some (ds, ρ)) = some (d :: ds, ρ) := rfl
def kTup : Option (List D × Env) → Option (D × Env)
  | some (ds, ρ) => if ds.length ≤ 1000 then some (.tup ds, ρ) else none
  | none => none
def kLst : Option (List D × Env) → Option (D × Env)
  | some (ds, ρ) => if ds.length ≤ 1000 then some (.lst ds, ρ) else none
  | none => none
theorem eTup_ap : eTup ga ρ = kTup (ga ρ) := by
  unfold eTup kTup
  cases ga ρ <;> rfl
theorem eLst_ap : eLst ga ρ = kLst (ga ρ) := by
  unfold eLst kLst
  cases ga ρ <;> rfl
theorem kTup_some : kTup (some (ds, ρ)) = if ds.length ≤ 1000 then some (.tup ds, ρ) else none := rfl
theorem kLst_some : kLst (some (ds, ρ)) = if ds.length ≤ 1000 then some (.lst ds, ρ) else none := rfl
def kCall (g : List D → Option D) : Option (List D × Env) → Option (D × Env)
  | some (ds, ρ) => kOut (g ds) ρ
  | none => none
theorem eCall_ap {h : List D → Option D} : eCall h ga ρ = kCall h (ga ρ) := by
  unfold eCall kCall
  cases ga ρ with
  | none => rfl
  | some r =>
    obtain ⟨ds, ρ1⟩ := r
    simp only [kOut]
    all_goals cases h ds <;> rfl
theorem kCall_some {h : List D → Option D} : kCall h (some (ds, ρ)) = kOut (h ds) ρ := rfl
def kNeg : Option (D × Env) → Option (D × Env)
  | some (.int i, ρ) => some (.int (-i), ρ)
  | _ => none
theorem eNeg_ap : eNeg fa ρ = kNeg (fa ρ) := by
  unfold eNeg kNeg
  cases fa ρ with
  | none => rfl
  | some r => obtain ⟨d, ρ1⟩ := r; cases d <;> rfl
theorem kNeg_some {i : Int} : kNeg (some (.int i, ρ)) = some (.int (-i), ρ) := rfl
def kIsi (T : String) : Option (D × Env) → Option (D × Env)
  | some (d, ρ) => kOut ((tyD d).map fun a => .bl (a == T || (a == "bool" && T == "int"))) ρ
  | none => none
theorem eIsi_ap {T : String} : eIsi T fa ρ = kIsi T (fa ρ) := by
  unfold eIsi kIsi
  cases fa ρ with
  | none => rfl
  | some r =>
    obtain ⟨d, ρ1⟩ := r
    simp only [kOut]
    cases tyD d <;> rfl
theorem kIsi_some {T : String} : kIsi T (some (d, ρ)) = kOut ((tyD d).map fun a => .bl (a == T || (a == "bool" && T == "int"))) ρ := rfl
/-! ### items of a slot -/
def kIxV2 (e : D) (ρ : Env) : Option Sl → Option (D × Env)
  | some (.ow d) => kOut (gIdx d e) ρ
  | _ => none
def kIxV1 (i : Nat) (e : D) (ρ : Env) : Option Sl → Option (D × Env)
  | some (.fz d) => kOut (gIdx d e) ρ
  | some (.ow _) => kIxV2 e ρ ρ[i]?
  | _ => none
def kIxV (i : Nat) (ρ0 : Env) : Option (D × Env) → Option (D × Env)
  | some (e, ρ) => kIxV1 i e ρ ρ0[i]?
  | none => none
theorem eIdxV_ap : eIdxV i fb ρ = kIxV i ρ (fb ρ) := by
  unfold eIdxV kIxV
  cases fb ρ with
  | none => rfl
  | some r =>
    obtain ⟨e, ρ1⟩ := r
    simp only [kIxV1]
    cases ρ[i]? with
    | none => rfl
    | some s =>
      cases s with
      | un => rfl
      | fz d =>
        simp only [kOut]
        all_goals cases gIdx d e <;> rfl
      | ow d =>
        simp only [kIxV2]
        cases ρ1[i]? with
        | none => rfl
        | some s' =>
          cases s' with
          | ow d' =>
            simp only [kOut]
            all_goals cases gIdx d' e <;> rfl
          | _ => rfl
theorem kIxV_some : kIxV i ρ (some (e, ρ1)) = kIxV1 i e ρ1 ρ[i]? := rfl
theorem kIxV1_fz : kIxV1 i e ρ (some (.fz d)) = kOut (gIdx d e) ρ := rfl
theorem kIxV1_ow : kIxV1 i e ρ (some (.ow d)) = kIxV2 e ρ ρ[i]? := rfl
theorem kIxV2_ow : kIxV2 e ρ (some (.ow d)) = kOut (gIdx d e) ρ := rfl
theorem gIdx_tup0 : gIdx (.tup (d :: ds)) (.int 0) = some d := by simp [gIdx, ixD]
theorem gIdx_lst0 : gIdx (.lst (d :: ds)) (.int 0) = some d := by simp [gIdx, ixD]
theorem gIdx_tup1 : gIdx (.tup (d :: e :: ds)) (.int 1) = some e := by
  simp only [gIdx, ixD, List.length_cons]
  rw [if_pos (by omega), if_pos (by omega)]; rfl
theorem gIdx_lst1 : gIdx (.lst (d :: e :: ds)) (.int 1) = some e := by
  simp only [gIdx, ixD, List.length_cons]
  rw [if_pos (by omega), if_pos (by omega)]; rfl
theorem gIdx_tup2 : gIdx (.tup (d :: e :: c :: ds)) (.int 2) = some c := by
  simp only [gIdx, ixD, List.length_cons]
  rw [if_pos (by omega), if_pos (by omega)]; rfl
theorem gIdx_tup3 {c' : D} : gIdx (.tup (d :: e :: c :: c' :: ds)) (.int 3) = some c' := by
  simp only [gIdx, ixD, List.length_cons]
  rw [if_pos (by omega), if_pos (by omega)]; rfl
theorem gIdx_lst {i : Int} (h0 : 0 ≤ i) (h : i < ds.length) : gIdx (.lst ds) (.int i) = ds[i.toNat]? := by
  simp only [gIdx, ixD_int h0 h]; rfl
theorem gIdx_lstN {i : Nat} (h : i < ds.length) : gIdx (.lst ds) (.int (i : Int)) = ds[i]? := by
  simp only [gIdx, ixD_nat h]; rfl
/-! ### slices -/
def kSl3 (ds : List D) (l : Option Int) : Option (Option Int × Env) → Option (D × Env)
  | some (u, ρ) => some (.lst (cutD ds l u), ρ)
  | none => none
def kSl2 (ds : List D) (hi : Ox) : Option (Option Int × Env) → Option (D × Env)
  | some (l, ρ) => kSl3 ds l (hi ρ)
  | none => none
def kSl (lo hi : Ox) : Option (D × Env) → Option (D × Env)
  | some (.lst ds, ρ) => kSl2 ds hi (lo ρ)
  | _ => none
variable {lo hi : Ox} {l u : Option Int}
theorem eSl_ap : eSl fa lo hi ρ = kSl lo hi (fa ρ) := by
  unfold eSl kSl
  cases fa ρ with
  | none => rfl
  | some r =>
    obtain ⟨d, ρ1⟩ := r
    cases d with
    | lst ds =>
      simp only [kSl2]
      cases lo ρ1 with
      | none => rfl
      | some s =>
        obtain ⟨l, ρ2⟩ := s
        simp only [kSl3]
        all_goals cases hi ρ2 <;> rfl
    | _ => rfl
theorem kSl_some : kSl lo hi (some (.lst ds, ρ)) = kSl2 ds hi (lo ρ) := rfl
theorem kSl2_some : kSl2 ds hi (some (l, ρ)) = kSl3 ds l (hi ρ) := rfl
theorem kSl3_some : kSl3 ds l (some (u, ρ)) = some (.lst (cutD ds l u), ρ) := rfl
theorem oNone_ap : oNone ρ = some (none, ρ) := rfl
def kOs : Option (D × Env) → Option (Option Int × Env)
  | some (.int i, ρ) => some (some i, ρ)
  | _ => none
theorem oSome_ap : oSome fa ρ = kOs (fa ρ) := by
  unfold oSome kOs
  cases fa ρ with
  | none => rfl
  | some r => obtain ⟨d, ρ1⟩ := r; cases d <;> rfl
theorem kOs_some {i : Int} : kOs (some (.int i, ρ)) = some (some i, ρ) := rfl
/-! ### statements -/
variable {F F' : Sx} {g' : Gx}
def kSeq (F' : Sx) : Option Out → Option Out
  | some (.nx ρ) => F' ρ
  | o => o
theorem sSeq_ap : sSeq F F' ρ = kSeq F' (F ρ) := by
  unfold sSeq kSeq
  cases F ρ with
  | none => rfl
  | some o => cases o <;> rfl
theorem kSeq_nx : kSeq F (some (.nx ρ)) = F ρ := rfl
theorem kSeq_rt : kSeq F (some (.rt d)) = some (.rt d) := rfl
theorem kSeq_bk : kSeq F (some (.bk ρ)) = some (.bk ρ) := rfl
theorem kSeq_ct : kSeq F (some (.ct ρ)) = some (.ct ρ) := rfl
theorem sNil_ap : sNil ρ = some (.nx ρ) := rfl
theorem sBrk_ap : sBrk ρ = some (.bk ρ) := rfl
theorem sCnt_ap : sCnt ρ = some (.ct ρ) := rfl
def kSIf (F F' : Sx) : Option (Bool × Env) → Option Out
  | some (true, ρ) => F ρ
  | some (false, ρ) => F' ρ
  | none => none
theorem sIf_ap : sIf p F F' ρ = kSIf F F' (p ρ) := by
  unfold sIf kSIf
  cases p ρ with
  | none => rfl
  | some r => obtain ⟨b, ρ1⟩ := r; cases b <;> rfl
theorem kSIf_t : kSIf F F' (some (true, ρ)) = F ρ := rfl
theorem kSIf_f : kSIf F F' (some (false, ρ)) = F' ρ := rfl
def kRet : Option (D × Env) → Option Out
  | some (d, _) => some (.rt d)
  | none => none
theorem sRet_ap : sRet fa ρ = kRet (fa ρ) := by
  unfold sRet kRet
  cases fa ρ <;> rfl
theorem kRet_some : kRet (some (d, ρ)) = some (.rt d) := rfl
def kRetV : Option Sl → Option Out
  | some (.ow d) => some (.rt d)
  | _ => none
theorem sRetV_ap : sRetV i ρ = kRetV ρ[i]? := by
  unfold sRetV kRetV
  cases ρ[i]? with
  | none => rfl
  | some s => cases s <;> rfl
theorem kRetV_ow : kRetV (some (.ow d)) = some (.rt d) := rfl
def kExp : Option (D × Env) → Option Out
  | some (_, ρ) => some (.nx ρ)
  | none => none
theorem sExp_ap : sExp fa ρ = kExp (fa ρ) := by
  unfold sExp kExp
  cases fa ρ <;> rfl
theorem kExp_some : kExp (some (d, ρ)) = some (.nx ρ) := rfl
def kSet (i : Nat) : Option (D × Env) → Option Out
  | some (d, ρ) => some (.nx (ρ.set i (.fz d)))
  | none => none
def kSetN (i : Nat) : Option (D × Env) → Option Out
  | some (d, ρ) => some (.nx (ρ.set i (.ow d)))
  | none => none
theorem sSet_ap : sSet i fa ρ = kSet i (fa ρ) := by
  unfold sSet kSet
  cases fa ρ <;> rfl
theorem sSetN_ap : sSetN i fa ρ = kSetN i (fa ρ) := by
  unfold sSetN kSetN
  cases fa ρ <;> rfl
theorem kSet_some : kSet i (some (d, ρ)) = some (.nx (ρ.set i (.fz d))) := rfl
theorem kSetN_some : kSetN i (some (d, ρ)) = some (.nx (ρ.set i (.ow d))) := rfl
def kNx : Option Env → Option Out
  | some ρ => some (.nx ρ)
  | none => none
def kAsg (g : Gx) : Option (D × Env) → Option Out
  | some (d, ρ) => kNx (g d ρ)
  | none => none
theorem sAsg_ap : sAsg g' fa ρ = kAsg g' (fa ρ) := by
  unfold sAsg kAsg
  cases fa ρ with
  | none => rfl
  | some r =>
    obtain ⟨d, ρ1⟩ := r
    simp only [kNx]
    all_goals cases g' d ρ1 <;> rfl
theorem kAsg_some : kAsg g' (some (d, ρ)) = kNx (g' d ρ) := rfl
theorem kNx_some : kNx (some ρ) = some (.nx ρ) := rfl
theorem gN_ap : gN i d ρ = some (ρ.set i (.fz d)) := rfl
variable {gs : Gxs}
theorem gTupD_ap : gTupD gs (.tup ds) ρ = gs ds ρ := rfl
theorem gNil_ap : gNil [] ρ = some ρ := rfl
def kG (gs : Gxs) (ds : List D) : Option Env → Option Env
  | some ρ => gs ds ρ
  | none => none
theorem gCons_ap : gCons g' gs (d :: ds) ρ = kG gs ds (g' d ρ) := by
  simp only [gCons, kG]
  all_goals cases g' d ρ <;> rfl
theorem kG_some : kG gs ds (some ρ) = gs ds ρ := rfl
def kPar (i j : Nat) : Option (List D × Env) → Option Out
  | some ([d, e], ρ1) => some (.nx ((ρ1.set i (.fz d)).set j (.fz e)))
  | _ => none
theorem sPar_ap : sPar i j ga ρ = kPar i j (ga ρ) := by
  unfold sPar kPar
  rfl
theorem kPar_some : kPar i j (some ([d, e], ρ)) = some (.nx ((ρ.set i (.fz d)).set j (.fz e))) := rfl
def kFor (g : Gx) (F : Sx) : Option (List D × Env) → Option Out
  | some (ds, ρ) => forD g F ds ρ
  | none => none
theorem sFor_ap : sFor ga g' F ρ = kFor g' F (ga ρ) := by
  unfold sFor kFor
  cases ga ρ <;> rfl
theorem kFor_some : kFor g' F (some (ds, ρ)) = forD g' F ds ρ := rfl
def kISeq : Option (D × Env) → Option (List D × Env)
  | some (.lst ds, ρ) => some (ds, ρ)
  | _ => none
theorem iSeq_ap : iSeq fa ρ = kISeq (fa ρ) := by
  unfold iSeq kISeq
  rfl
theorem kISeq_some : kISeq (some (.lst ds, ρ)) = some (ds, ρ) := rfl
def kITup : Option (D × Env) → Option (List D × Env)
  | some (.tup ds, ρ) => some (ds, ρ)
  | _ => none
theorem iTupF_ap : iTupF fa ρ = kITup (fa ρ) := by
  unfold iTupF kITup
  rfl
theorem kITup_some : kITup (some (.tup ds, ρ)) = some (ds, ρ) := rfl
def kScr : Option (D × Env) → Option (List D × Env)
  | some (.scr ns, ρ) => some (ns.map D.int, ρ)
  | _ => none
theorem iScr_ap : iScr fa ρ = kScr (fa ρ) := by
  unfold iScr kScr
  rfl
theorem kScr_some {ns : List Int} : kScr (some (.scr ns, ρ)) = some (ns.map D.int, ρ) := rfl
def kRng1 : Option (List D × Env) → Option (List D × Env)
  | some ([.int j], ρ) => if decide (-(2 ^ 62) ≤ j) && decide (j < 2 ^ 62) then some (rangeD 0 j.toNat, ρ) else none
  | _ => none
theorem iRng1_ap : iRng1 ga ρ = kRng1 (ga ρ) := by
  unfold iRng1 kRng1
  rfl
theorem kRng1_int {j : Int} (h0 : 0 ≤ j) (h : j < 2 ^ 62) : kRng1 (some ([.int j], ρ)) = some (rangeD 0 j.toNat, ρ) := by
  show (if _ then _ else _) = _
  rw [if_pos (by simp only [Bool.and_eq_true, decide_eq_true_eq]; omega)]
theorem kRng1_nat {n : Nat} (h : n < 4611686018427387904) : kRng1 (some ([.int (n : Int)], ρ)) = some (rangeD 0 n, ρ) := by
  have := kRng1_int (ρ := ρ) (j := (n : Int)) (by omega) (by omega)
  rw [this, Int.toNat_natCast]
def kRng2 : Option (List D × Env) → Option (List D × Env)
  | some ([.int i, .int j], ρ1) => if (decide (-(2 ^ 62) ≤ i) && decide (i < 2 ^ 62)) && (decide (-(2 ^ 62) ≤ j) && decide (j < 2 ^ 62)) then some (rangeD i (j - i).toNat, ρ1) else none
  | _ => none
theorem iRng2_ap : iRng2 ga ρ = kRng2 (ga ρ) := by
  unfold iRng2 kRng2
  rfl
theorem kRng2_int {i j : Int} (h1 : 0 ≤ i) (h2 : i < 2 ^ 62) (h3 : 0 ≤ j) (h4 : j < 2 ^ 62) : kRng2 (some ([.int i, .int j], ρ)) = some (rangeD i (j - i).toNat, ρ) := by
  show (if _ then _ else _) = _
  rw [if_pos (by simp only [Bool.and_eq_true, decide_eq_true_eq]; omega)]
def kEnum : Option (List D × Env) → Option (List D × Env)
  | some ([.lst ds], ρ) => some (enumD ds, ρ)
  | _ => none
theorem iEnumF_ap : iEnumF ga ρ = kEnum (ga ρ) := by
  unfold iEnumF kEnum
  rfl
theorem kEnum_some : kEnum (some ([.lst ds], ρ)) = some (enumD ds, ρ) := rfl
def kZip : Option (List D × Env) → Option (List D × Env)
  | some ([.lst ds, .lst es], ρ) => some (zipD ds es, ρ)
  | _ => none
theorem iZipF_ap : iZipF ga ρ = kZip (ga ρ) := by
  unfold iZipF kZip
  rfl
theorem kZip_some : kZip (some ([.lst ds, .lst es], ρ)) = some (zipD ds es, ρ) := rfl
/-! ### lists of one's own -/
def kMt3 (i : Nat) (ρ : Env) : Option (D × List D) → Option (D × Env)
  | some (c, ds) => some (c, ρ.set i (.ow (.lst ds)))
  | none => none
def kMt2 (i : Nat) (h : List D → List D → Option (D × List D)) (es : List D) (ρ : Env) : Option Sl → Option (D × Env)
  | some (.ow (.lst ds)) => kMt3 i ρ (h ds es)
  | _ => none
def kMt1 (i : Nat) (h : List D → List D → Option (D × List D)) : Option (List D × Env) → Option (D × Env)
  | some (es, ρ) => kMt2 i h es ρ ρ[i]?
  | none => none
def kMt (i : Nat) (h : List D → List D → Option (D × List D)) (ga : Ax) (ρ : Env) : Option Sl → Option (D × Env)
  | some (.ow (.lst _)) => kMt1 i h (ga ρ)
  | _ => none
variable {h : List D → List D → Option (D × List D)}
theorem eMt_ap : eMt i h ga ρ = kMt i h ga ρ ρ[i]? := by
  unfold eMt kMt
  cases ρ[i]? with
  | none => rfl
  | some s =>
    cases s with
    | ow d =>
      cases d with
      | lst ds =>
        simp only [kMt1]
        cases ga ρ with
        | none => rfl
        | some r =>
          obtain ⟨es, ρ1⟩ := r
          simp only [kMt2]
          cases ρ1[i]? with
          | none => rfl
          | some s =>
            cases s with
            | ow d =>
              cases d with
              | lst ds =>
                simp only [kMt3]
                all_goals cases h ds es <;> rfl
              | _ => rfl
            | _ => rfl
      | _ => rfl
    | _ => rfl
theorem kMt_ow : kMt i h ga ρ (some (.ow (.lst ds))) = kMt1 i h (ga ρ) := rfl
theorem kMt1_some : kMt1 i h (some (es, ρ)) = kMt2 i h es ρ ρ[i]? := rfl
theorem kMt2_ow : kMt2 i h es ρ (some (.ow (.lst ds))) = kMt3 i ρ (h ds es) := rfl
theorem kMt3_some : kMt3 i ρ (some (c, ds)) = some (c, ρ.set i (.ow (.lst ds))) := rfl
theorem hApp_ap (hl : ds.length ≤ 1000000) : hApp ds [d] = some (.non, ds ++ [d]) := by
  show (if _ then _ else _) = _
  rw [if_pos hl]
def kPut4 (i : Nat) (ρ : Env) (ds : List D) (d : D) : Option Nat → Option Out
  | some n => some (.nx (ρ.set i (.ow (.lst (ds.set n d)))))
  | none => none
def kPut3 (i : Nat) (k d : D) (ρ : Env) : Option Sl → Option Out
  | some (.ow (.lst ds)) => (match k with
    | .int j => kPut4 i ρ ds d (ixD ds.length j)
    | _ => none)
  | _ => none
def kPut2 (i : Nat) (d : D) : Option (D × Env) → Option Out
  | some (k, ρ) => kPut3 i k d ρ ρ[i]?
  | none => none
def kPut1 (i : Nat) (fi : Ex) (d : D) (ρ : Env) : Option Sl → Option Out
  | some (.ow _) => kPut2 i d (fi ρ)
  | _ => none
def kPut (i : Nat) (fi : Ex) : Option (D × Env) → Option Out
  | some (d, ρ) => kPut1 i fi d ρ ρ[i]?
  | none => none
theorem sPut_ap : sPut i fa fb ρ = kPut i fa (fb ρ) := by
  unfold sPut kPut
  cases fb ρ with
  | none => rfl
  | some r =>
    obtain ⟨d, ρ1⟩ := r
    simp only [kPut1]
    cases ρ1[i]? with
    | none => rfl
    | some s =>
      cases s with
      | ow d0 =>
        simp only [kPut2]
        cases fa ρ1 with
        | none => rfl
        | some r =>
          obtain ⟨k, ρ2⟩ := r
          simp only [kPut3]
          cases ρ2[i]? with
          | none => rfl
          | some s =>
            cases s with
            | ow d1 =>
              cases d1 with
              | lst ds =>
                cases k with
                | int j =>
                  simp only [kPut4]
                  all_goals cases ixD ds.length j <;> rfl
                | _ => rfl
              | _ => rfl
            | _ => rfl
      | _ => rfl
theorem kPut_some : kPut i fa (some (d, ρ)) = kPut1 i fa d ρ ρ[i]? := rfl
theorem kPut1_ow : kPut1 i fa d ρ (some (.ow e)) = kPut2 i d (fa ρ) := rfl
theorem kPut2_some : kPut2 i d (some (e, ρ)) = kPut3 i e d ρ ρ[i]? := rfl
theorem kPut3_ow {j : Int} : kPut3 i (.int j) d ρ (some (.ow (.lst ds))) = kPut4 i ρ ds d (ixD ds.length j) := rfl
theorem kPut4_some {n : Nat} : kPut4 i ρ ds d (some n) = some (.nx (ρ.set i (.ow (.lst (ds.set n d))))) := rfl
def kInc2 (i : Nat) (a : Int) : Option (D × Env) → Option Out
  | some (.int b, ρ) => some (.nx (ρ.set i (.fz (.int (a + b)))))
  | _ => none
def kInc (i : Nat) (fa : Ex) (ρ : Env) : Option Sl → Option Out
  | some (.fz (.int a)) => kInc2 i a (fa ρ)
  | _ => none
theorem sInc_ap : sInc i fa ρ = kInc i fa ρ ρ[i]? := by
  unfold sInc kInc
  cases ρ[i]? with
  | none => rfl
  | some s =>
    cases s with
    | fz d =>
      cases d with
      | int a =>
        simp only [kInc2]
        all_goals cases fa ρ with
        | none => rfl
        | some r => obtain ⟨d, ρ1⟩ := r; cases d <;> rfl
      | _ => rfl
    | _ => rfl
theorem kInc_fz {a : Int} : kInc i fa ρ (some (.fz (.int a))) = kInc2 i a (fa ρ) := rfl
theorem kInc2_some {a b : Int} : kInc2 i a (some (.int b, ρ)) = some (.nx (ρ.set i (.fz (.int (a + b))))) := rfl
/-! ### operations -/
theorem gAdd_int {i j : Int} : gAdd (.int i) (.int j) = some (.int (i + j)) := rfl
theorem gSub_int {i j : Int} : gSub (.int i) (.int j) = some (.int (i - j)) := rfl
theorem gLt_int {i j : Int} : gLt (.int i) (.int j) = some (.bl (decide (i < j))) := rfl
theorem gLe_int {i j : Int} : gLe (.int i) (.int j) = some (.bl (decide (i ≤ j))) := rfl
theorem gGt_int {i j : Int} : gGt (.int i) (.int j) = some (.bl (decide (j < i))) := rfl
theorem gGe_int {i j : Int} : gGe (.int i) (.int j) = some (.bl (decide (j ≤ i))) := rfl
theorem gMod_int {i j : Int} (h : 0 < j) : gMod (.int i) (.int j) = some (.int (i % j)) := by
  unfold gMod gC; simp [h]
theorem gFdiv_int {i j : Int} (h : 0 < j) (h2 : j < 1073741824) : gFdiv (.int i) (.int j) = some (.int (i / j)) := by
  unfold gFdiv gC; simp [h, h2]
theorem gMul_r {i j : Int} (h : -(2 ^ 64) < j) (h2 : j < 2 ^ 64) : gMul (.int i) (.int j) = some (.int (i * j)) := by
  show (if _ then _ else _) = _
  rw [if_pos (by unfold mulOk; simp only [Bool.or_eq_true, Bool.and_eq_true, decide_eq_true_eq]; exact .inr ⟨h, h2⟩)]
theorem gMul_l {i j : Int} (h : -(2 ^ 64) < i) (h2 : i < 2 ^ 64) : gMul (.int i) (.int j) = some (.int (i * j)) := by
  show (if _ then _ else _) = _
  rw [if_pos (by unfold mulOk; simp only [Bool.or_eq_true, Bool.and_eq_true, decide_eq_true_eq]; exact .inl ⟨h, h2⟩)]
theorem gAdd_lst (hl : ds.length + es.length ≤ sizeLine) : gAdd (.lst ds) (.lst es) = some (.lst (ds ++ es)) := by
  show (if _ then _ else _) = _
  rw [if_pos hl]
theorem gIs_non {d : D} : gIs d .non = (match d with | .non => some (.bl true) | .scr _ => none | _ => some (.bl false)) := rfl
theorem gIs_nn : gIs .non .non = some (.bl true) := rfl
theorem gIs_in {i : Int} : gIs (.int i) .non = some (.bl false) := rfl
theorem gIs_bl {a : Bool} : gIs (.bl a) (.bl b) = some (.bl (a == b)) := rfl
theorem gIsNot_nn : gIsNot .non .non = some (.bl false) := rfl
theorem gIsNot_in {i : Int} : gIsNot (.int i) .non = some (.bl true) := rfl
theorem gIs_am {a : Amt} : gIs (am a) .non = some (.bl (a.isNone)) := by cases a <;> rfl
theorem gIsNot_am {a : Amt} : gIsNot (am a) .non = some (.bl (a.isSome)) := by cases a <;> rfl
theorem gEq_int {i j : Int} : gEq (.int i) (.int j) = some (.bl (i == j)) := rfl
theorem gNe_int {i j : Int} : gNe (.int i) (.int j) = some (.bl (!(i == j))) := rfl
theorem gEq_bl {a b : Bool} : gEq (.bl a) (.bl b) = some (.bl (a == b)) := rfl
theorem gNe_bl {a b : Bool} : gNe (.bl a) (.bl b) = some (.bl (!(a == b))) := rfl
theorem g1_ap {h : D → Option D} : g1 h [d] = h d := rfl
theorem hLen_lst : hLen (.lst ds) = some (.int ds.length) := rfl
theorem hLen_tup : hLen (.tup ds) = some (.int ds.length) := rfl
theorem hInt_int {i : Int} : hInt (.int i) = some (.int i) := rfl
theorem hInt_bl : hInt (.bl b) = some (.int (if b then 1 else 0)) := rfl
theorem hAbs_int {i : Int} : hAbs (.int i) = some (.int (if i < 0 then -i else i)) := rfl
theorem gMax2_ap {i j : Int} : gMax2 [.int i, .int j] = some (.int (if j > i then j else i)) := rfl
theorem gMin2_ap {i j : Int} : gMin2 [.int i, .int j] = some (.int (if j < i then j else i)) := rfl
theorem hLstOf_lst : hLstOf (.lst ds) = some (.lst ds) := rfl
theorem hLstOf_tup : hLstOf (.tup ds) = some (.lst ds) := rfl
theorem hSum_ints {ns : List Int} : hSum (.lst (ns.map D.int)) = some (.int ns.sum) := by simp [hSum, intsD_map]
theorem hAll_bls {bs : List Bool} : hAll (.lst (bs.map D.bl)) = some (.bl (bs.all id)) := by simp [hAll, blsD_map]
theorem hAny_bls {bs : List Bool} : hAny (.lst (bs.map D.bl)) = some (.bl (bs.any id)) := by simp [hAny, blsD_map]
theorem tyD_int {i : Int} : tyD (.int i) = some "int" := rfl
theorem tyD_bl : tyD (.bl b) = some "bool" := rfl
theorem tyD_non : tyD .non = some "NoneType" := rfl
theorem tyD_lst : tyD (.lst ds) = some "list" := rfl
theorem tyD_tup : tyD (.tup ds) = some "tuple" := rfl
end
end Ev
end DL

/-! DN: loops by what has been passed; reading lists of plain things. -/
namespace DL
open PySem PySem.Spec PyProof.Rows L2
def stepOk {α : Type} (I : List α → Env → Prop) (R : Out → Prop) (pre : List α) : Out → Prop
  | .nx ρ => I pre ρ
  | .ct ρ => I pre ρ
  | .bk ρ => R (.nx ρ)
  | .rt d => R (.rt d)
theorem forD_rule {α : Type} {g : Gx} {F : Sx} (enc : α → D) (I : List α → Env → Prop) (R : Out → Prop) (xs : List α) (ρ : Env) (h0 : I [] ρ)
    (hs : ∀ pre x post ρ, xs = pre ++ x :: post → I pre ρ → ∃ o, turnD g F (enc x) ρ = some o ∧ stepOk I R (pre ++ [x]) o) :
    ∃ o, forD g F (xs.map enc) ρ = some o ∧ (R o ∨ ∃ ρ', o = .nx ρ' ∧ I xs ρ') := by
  have key : ∀ (ys pre : List α) (ρ : Env), xs = pre ++ ys → I pre ρ → ∃ o, forD g F (ys.map enc) ρ = some o ∧ (R o ∨ ∃ ρ', o = .nx ρ' ∧ I xs ρ') := by
    intro ys
    induction ys with
    | nil => intro pre ρ e h; exact ⟨_, rfl, .inr ⟨ρ, rfl, by rw [e, List.append_nil]; exact h⟩⟩
    | cons x ys ih =>
      intro pre ρ e h
      obtain ⟨o, h1, h2⟩ := hs pre x ys ρ e h
      have e2 : xs = (pre ++ [x]) ++ ys := by rw [e, List.append_assoc]; rfl
      rw [List.map_cons, forD_cons, h1]
      cases o with
      | nx ρ1 => exact ih _ _ e2 h2
      | ct ρ1 => exact ih _ _ e2 h2
      | bk ρ1 => exact ⟨_, rfl, .inl h2⟩
      | rt d => exact ⟨_, rfl, .inl h2⟩
  exact key xs [] ρ rfl h0
/-- .. that always runs through -/
theorem forD_run {α : Type} {g : Gx} {F : Sx} (enc : α → D) (I : List α → Env → Prop) (xs : List α) (ρ : Env) (h0 : I [] ρ)
    (hs : ∀ pre x post ρ, xs = pre ++ x :: post → I pre ρ → ∃ ρ', turnD g F (enc x) ρ = some (.nx ρ') ∧ I (pre ++ [x]) ρ') :
    ∃ ρ', forD g F (xs.map enc) ρ = some (.nx ρ') ∧ I xs ρ' := by
  obtain ⟨o, h1, h2⟩ := forD_rule (g := g) (F := F) enc I (fun _ => False) xs ρ h0 fun pre x post ρ e h => by
    obtain ⟨ρ', h3, h4⟩ := hs pre x post ρ e h
    exact ⟨_, h3, h4⟩
  rcases h2 with h | ⟨ρ', rfl, h⟩
  · exact h.elim
  · exact ⟨ρ', h1, h⟩
theorem rangeD_nat (n : Nat) : rangeD 0 n = (List.range n).map fun (x : Nat) => D.int (x : Int) := by
  unfold rangeD; simp
/-- for k in range(n) -/
theorem forD_range {g : Gx} {F : Sx} (I : Nat → Env → Prop) (n : Nat) (ρ : Env) (h0 : I 0 ρ)
    (hs : ∀ k ρ, k < n → I k ρ → ∃ ρ', turnD g F (.int (k : Int)) ρ = some (.nx ρ') ∧ I (k + 1) ρ') :
    ∃ ρ', forD g F (rangeD 0 n) ρ = some (.nx ρ') ∧ I n ρ' := by
  rw [rangeD_nat]
  obtain ⟨ρ', h1, h2⟩ := forD_run (g := g) (F := F) (fun (x : Nat) => D.int (x : Int)) (fun pre ρ => I pre.length ρ) (List.range n) ρ h0 fun pre x post ρ e h => by
    have hx : x = pre.length ∧ x < n := by
      have hl : (List.range n).length = (pre ++ x :: post).length := by rw [e]
      simp only [List.length_range, List.length_append, List.length_cons] at hl
      have h5 : (List.range n)[pre.length]? = some x := by rw [e]; simp
      rw [List.getElem?_range (by omega)] at h5
      have := Option.some.inj h5
      omega
    obtain ⟨ρ', h3, h4⟩ := hs pre.length ρ (by omega) h
    rw [hx.1]
    exact ⟨ρ', h3, by simpa using h4⟩
  exact ⟨ρ', h1, by simpa using h2⟩
/-- .. with a way out -/
theorem forD_rangeR {g : Gx} {F : Sx} (I : Nat → Env → Prop) (R : Out → Prop) (n : Nat) (ρ : Env) (h0 : I 0 ρ)
    (hs : ∀ k ρ, k < n → I k ρ → ∃ o, turnD g F (.int (k : Int)) ρ = some o ∧ (match o with | .nx ρ => I (k + 1) ρ | .ct ρ => I (k + 1) ρ | .bk ρ => R (.nx ρ) | .rt d => R (.rt d))) :
    ∃ o, forD g F (rangeD 0 n) ρ = some o ∧ (R o ∨ ∃ ρ', o = .nx ρ' ∧ I n ρ') := by
  rw [rangeD_nat]
  obtain ⟨o, h1, h2⟩ := forD_rule (g := g) (F := F) (fun (x : Nat) => D.int (x : Int)) (fun pre ρ => I pre.length ρ) R (List.range n) ρ h0 fun pre x post ρ e h => by
    have hx : x = pre.length ∧ x < n := by
      have hl : (List.range n).length = (pre ++ x :: post).length := by rw [e]
      simp only [List.length_range, List.length_append, List.length_cons] at hl
      have h5 : (List.range n)[pre.length]? = some x := by rw [e]; simp
      rw [List.getElem?_range (by omega)] at h5
      have := Option.some.inj h5
      omega
    obtain ⟨o, h3, h4⟩ := hs pre.length ρ (by omega) h
    rw [hx.1]
    refine ⟨o, h3, ?_⟩
    cases o <;> simpa [stepOk] using h4
  exact ⟨o, h1, by simpa using h2⟩
theorem gIdx_map {α : Type} [Inhabited α] {enc : α → D} {xs : List α} {i : Int} (h0 : 0 ≤ i) (h : i < xs.length) : gIdx (.lst (xs.map enc)) (.int i) = some (enc (xs.getD i.toNat default)) := by
  simp only [gIdx, List.length_map, ixD_int h0 h]
  have : i.toNat < xs.length := by omega
  simp [this]
theorem gIdx_ints {ns : List Int} {i : Int} (h0 : 0 ≤ i) (h : i < ns.length) : gIdx (.lst (ns.map D.int)) (.int i) = some (.int (ns.getD i.toNat 0)) := gIdx_map h0 h
theorem gIdx_nat {α : Type} [Inhabited α] {enc : α → D} {xs : List α} {i : Nat} (h : i < xs.length) : gIdx (.lst (xs.map enc)) (.int (i : Int)) = some (enc (xs.getD i default)) := by
  rw [gIdx_map (by omega) (by omega)]; simp
/-- `g` in a constant list -/
theorem gIdx_lit {ds : List D} {i : Int} {d : D} (h0 : 0 ≤ i) (h : ds[i.toNat]? = some d) : gIdx (.lst ds) (.int i) = some d := by
  have hl : i.toNat < ds.length := (List.getElem?_eq_some_iff.mp h).1
  simp only [gIdx, ixD_int h0 (by omega : i < ds.length)]
  exact h

/-! ### signs that are signs -/
def cOk (s : Str) : Prop := ∀ c ∈ s.cps.toList, c < 0x110000
theorem cOk_of (s : String) : cOk (s : Str) := fun c hc => by
  have hc : c ∈ (Str.ofString s).cps.toList := hc
  rw [signs_ofString] at hc
  obtain ⟨ch, _, rfl⟩ := List.mem_map.mp hc
  have h := ch.valid
  simp only [UInt32.isValidChar, Nat.isValidChar] at h
  show ch.val.toNat < _
  omega
theorem cOk_app {a b : Str} (ha : cOk a) (hb : cOk b) : cOk (a ++ b) := fun c hc => by
  rcases mem_cps_append.mp hc with h | h
  · exact ha c h
  · exact hb c h
theorem cOk_from : ∀ (ts : List Str) (k : Nat) (acc : Str), cOk acc → (∀ t ∈ ts, cOk t) → cOk (textFrom k acc ts)
  | [], _, _, h, _ => h
  | t :: ts, k, acc, h, ht => cOk_from ts (k + 1) _ (cOk_app (cOk_app h (by split <;> exact cOk_of _)) (ht t List.mem_cons_self)) fun u hu => ht u (List.mem_cons_of_mem _ hu)
theorem cOk_join : ∀ (ts : List Str), (∀ t ∈ ts, cOk t) → cOk (Str.join ", " ts)
  | [], _ => cOk_of ""
  | [x], h => h x List.mem_cons_self
  | x :: y :: r, h => cOk_app (cOk_app (h x List.mem_cons_self) (cOk_of ", ")) (cOk_join (y :: r) fun u hu => h u (List.mem_cons_of_mem _ hu))
theorem strOk_of {s : Str} (h : cOk s) : PyData.strOk s = true := by
  unfold PyData.strOk
  rw [Array.all_eq_true']
  intro c hc
  simpa using h c (by simpa using hc)
/-! ### what can be shown -/
structure Shw (n w : Nat) (d : D) : Prop where
  p : py n d = true
  s : (toPy d).showable = true
  l : (toPy d).leavesShort 13 = true
  b : (toPy d).bulk ≤ w
  c : cOk (toPy d).shown
theorem Shw.mono {n w w' : Nat} {d : D} (h : Shw n w d) (hw : w ≤ w') : Shw n w' d := ⟨h.p, h.s, h.l, Nat.le_trans h.b hw, h.c⟩
theorem Shw.non {n w : Nat} : Shw n w .non := ⟨by simp [py], by simp [toPy, PyData.showable], by simp [toPy, PyData.leavesShort], by simp [toPy, PyData.bulk], cOk_of "None"⟩
theorem Shw.bl {n w : Nat} {b : Bool} : Shw n w (.bl b) := ⟨by simp [py], by simp [toPy, PyData.showable], by simp [toPy, PyData.leavesShort], by simp [toPy, PyData.bulk], by cases b; exact cOk_of "False"; exact cOk_of "True"⟩
theorem Shw.int {n w : Nat} {i : Int} (h : i.natAbs < 10 ^ 12) : Shw n w (.int i) := by
  refine ⟨by simp [py], ?_, ?_, by simp [toPy, PyData.bulk], by rw [toPy, PyData.shown_int]; exact cOk_of _⟩
  · simp only [toPy, PyData.showable, decide_eq_true_eq]
    by_cases h0 : i.natAbs = 0
    · rw [h0]; decide
    · rw [Nat.log2_lt h0]
      exact Nat.lt_trans h (by decide)
  · simp only [toPy, PyData.leavesShort, decide_eq_true_eq]
    exact PyData.shown_int_le h
theorem Shw.am {n w : Nat} {a : Amt} (h : ∀ i, a = some i → i.natAbs < 10 ^ 12) : Shw n w (DL.am a) := by
  cases a with
  | none => exact .non
  | some i => exact .int (h i rfl)
theorem shw_all {n w : Nat} : ∀ ds : List D, (∀ d ∈ ds, Shw n w d) → pys n ds = true ∧ PyData.showableAll (toPys ds) = true ∧ PyData.leavesShortAll 13 (toPys ds) = true ∧ PyData.bulkAll (toPys ds) ≤ ds.length * (w + 1) ∧ ∀ t ∈ PyData.shownAll (toPys ds), cOk t
  | [], _ => by simp [pys, toPys, PyData.showableAll, PyData.leavesShortAll, PyData.bulkAll, PyData.shownAll]
  | d :: ds, h => by
    obtain ⟨h1, h2, h3, h4, h5⟩ := shw_all ds fun e he => h e (List.mem_cons_of_mem _ he)
    have hd := h d List.mem_cons_self
    refine ⟨by simp [pys, hd.p, h1], by simp [toPys, PyData.showableAll, hd.s, h2], by simp [toPys, PyData.leavesShortAll, hd.l, h3], ?_, ?_⟩
    · simp only [toPys, PyData.bulkAll, List.length_cons, Nat.add_mul, Nat.one_mul]
      have := hd.b
      omega
    · simp only [toPys, PyData.shownAll]
      intro t ht
      rcases List.mem_cons.mp ht with rfl | ht
      · exact hd.c
      · exact h5 t ht
theorem Shw.lst {n w : Nat} {ds : List D} (h : ∀ d ∈ ds, Shw n w d) : Shw (n + 1) (ds.length * (w + 1)) (.lst ds) := by
  obtain ⟨h1, h2, h3, h4, h5⟩ := shw_all ds h
  exact ⟨by simpa [py] using h1, by simpa [toPy, PyData.showable] using h2, by simpa [toPy, PyData.leavesShort] using h3, by simpa [toPy, PyData.bulk] using h4, by rw [toPy, PyData.shown]; exact cOk_app (cOk_from _ 0 _ (cOk_of "[") h5) (cOk_of "]")⟩
theorem Shw.tup {n w : Nat} {ds : List D} (h : ∀ d ∈ ds, Shw n w d) : Shw (n + 1) (ds.length * (w + 1)) (.tup ds) := by
  obtain ⟨h1, h2, h3, h4, h5⟩ := shw_all ds h
  exact ⟨by simpa [py] using h1, by simpa [toPy, PyData.showable] using h2, by simpa [toPy, PyData.leavesShort] using h3, by simpa [toPy, PyData.bulk] using h4, by rw [toPy, PyData.shown]; exact cOk_app (cOk_app (cOk_of "(") (cOk_join _ h5)) (by split <;> exact cOk_of _)⟩
/-- a list of at most k things -/
theorem Shw.lstMap {α : Type} {n w k : Nat} {enc : α → D} {xs : List α} (hk : xs.length ≤ k) (h : ∀ x ∈ xs, Shw n w (enc x)) : Shw (n + 1) (k * (w + 1)) (.lst (xs.map enc)) := by
  refine (Shw.lst (w := w) (fun d hd => ?_)).mono ?_
  · obtain ⟨x, hx, rfl⟩ := List.mem_map.mp hd; exact h x hx
  · rw [List.length_map]; exact Nat.mul_le_mul_right _ hk
theorem Shw.pair {n w : Nat} {d e : D} (h1 : Shw n w d) (h2 : Shw n w e) : Shw (n + 1) (2 * (w + 1)) (.tup [d, e]) :=
  Shw.tup (ds := [d, e]) (by simp; exact ⟨h1, h2⟩)
theorem hRepr_tup {w : Nat} {ds : List D} (h : Shw 40 w (.tup ds)) (hw : w ≤ 2 ^ 20) : hRepr (.tup ds) = some (.str (toPy (.tup ds)).shown) := by
  unfold hRepr reprOk
  have hb := PyData.shown_fits_bulk (B := 13) (by omega) (by omega) h.l (Nat.le_trans h.b hw)
  simp only [h.p, h.s, hb, decide_true, Bool.and_self, if_true]
theorem hRepr_lst {w : Nat} {ds : List D} (h : Shw 40 w (.lst ds)) (hw : w ≤ 2 ^ 20) : hRepr (.lst ds) = some (.str (toPy (.lst ds)).shown) := by
  unfold hRepr reprOk
  have hb := PyData.shown_fits_bulk (B := 13) (by omega) (by omega) h.l (Nat.le_trans h.b hw)
  simp only [h.p, h.s, hb, decide_true, Bool.and_self, if_true]
theorem Shw.strOk {n w : Nat} {d : D} (h : Shw n w d) : PyData.strOk (toPy d).shown = true := strOk_of h.c
theorem gEq_str {x : Str} (h : PyData.strOk x = true) : gEq (.str x) (.str x) = some (.bl true) := by
  unfold gEq
  rw [if_pos (by simp [py, h])]
  congr 2
  simp [deqv, toPy, PyData.eqv]
end DL

namespace DL
open PySem PySem.Spec PyProof.Rows L2
local macro_rules | `(tactic| walk_at "ev") => `(tactic| simp -implicitDefEqProofs only [Ev.eVar_ap, Ev.kVar_fz, Ev.kVar_ow, Ev.eC_ap, Ev.kOut_some, Ev.eBin_ap, Ev.kBin_some, Ev.kBin2_some, Ev.xB_ap, Ev.kB_some, Ev.eChain_ap, Ev.kCh_some, Ev.kCh1_some, Ev.kCh2_t, Ev.kCh2_f, Ev.kCh3_some, Ev.kCh4_some, Ev.xTru_ap, Ev.kTru_some, Ev.kTru2_some, Ev.truD_non, Ev.truD_bl, Ev.truD_int, Ev.truD_lst, Ev.truD_tup, Ev.xAnd_ap, Ev.xOr_ap, Ev.xNot_ap, Ev.kAnd_t, Ev.kAnd_f, Ev.kOr_t, Ev.kOr_f, Ev.kNot_some, Ev.eAnd_ap, Ev.eOr_ap, Ev.eNot_ap, Ev.kEAnd_some, Ev.kEAnd2_t, Ev.kEAnd2_f, Ev.kEOr_some, Ev.kEOr2_t, Ev.kEOr2_f, Ev.kENot_some, Ev.kENot2_some, Ev.eIf_ap, Ev.kEIf_t, Ev.kEIf_f, Ev.eBor_ap, Ev.kBor_int, Ev.kBor_bl, Ev.kBor_non, Ev.xBor_ap, Ev.kXBor_some, Ev.fzd_fz, Ev.fzd_ow, Ev.fzd_un, Ev.aNil_ap, Ev.aCons_ap, Ev.kCons_some, Ev.kCons2_some, Ev.eTup_ap, Ev.eLst_ap, Ev.kTup_some, Ev.kLst_some, Ev.eCall_ap, Ev.kCall_some, Ev.eNeg_ap, Ev.kNeg_some, Ev.eIsi_ap, Ev.kIsi_some, Ev.eIdxV_ap, Ev.kIxV_some, Ev.kIxV1_fz, Ev.kIxV1_ow, Ev.kIxV2_ow, Ev.gIdx_tup0, Ev.gIdx_lst0, Ev.gIdx_tup1, Ev.gIdx_lst1, Ev.gIdx_tup2, Ev.gIdx_tup3, Ev.eSl_ap, Ev.kSl_some, Ev.kSl2_some, Ev.kSl3_some, Ev.oNone_ap, Ev.oSome_ap, Ev.kOs_some, Ev.sSeq_ap, Ev.kSeq_nx, Ev.kSeq_rt, Ev.kSeq_bk, Ev.kSeq_ct, Ev.sNil_ap, Ev.sBrk_ap, Ev.sCnt_ap, Ev.sIf_ap, Ev.kSIf_t, Ev.kSIf_f, Ev.sRet_ap, Ev.kRet_some, Ev.sRetV_ap, Ev.kRetV_ow, Ev.sExp_ap, Ev.kExp_some, Ev.sSet_ap, Ev.sSetN_ap, Ev.kSet_some, Ev.kSetN_some, Ev.sAsg_ap, Ev.kAsg_some, Ev.kNx_some, Ev.gN_ap, Ev.gTupD_ap, Ev.gNil_ap, Ev.gCons_ap, Ev.kG_some, Ev.sPar_ap, Ev.kPar_some, Ev.sFor_ap, Ev.kFor_some, Ev.iSeq_ap, Ev.kISeq_some, Ev.iTupF_ap, Ev.kITup_some, Ev.iScr_ap, Ev.kScr_some, Ev.iRng1_ap, Ev.kRng1_int, Ev.kRng1_nat, Ev.iRng2_ap, Ev.iEnumF_ap, Ev.kEnum_some, Ev.iZipF_ap, Ev.kZip_some, Ev.eMt_ap, Ev.kMt_ow, Ev.kMt1_some, Ev.kMt2_ow, Ev.kMt3_some, Ev.hApp_ap, Ev.sPut_ap, Ev.kPut_some, Ev.kPut1_ow, Ev.kPut2_some, Ev.kPut3_ow, Ev.kPut4_some, Ev.sInc_ap, Ev.kInc_fz, Ev.kInc2_some, Ev.gAdd_int, Ev.gSub_int, Ev.gLt_int, Ev.gLe_int, Ev.gGt_int, Ev.gGe_int, Ev.gMod_int, Ev.gFdiv_int, Ev.gMul_r, Ev.gMul_l, Ev.gAdd_lst, Ev.gIs_nn, Ev.gIs_in, Ev.gIs_bl, Ev.gIsNot_nn, Ev.gIsNot_in, Ev.gIs_am, Ev.gIsNot_am, Ev.gEq_int, Ev.gNe_int, Ev.gEq_bl, Ev.gNe_bl, Ev.g1_ap, Ev.hLen_lst, Ev.hLen_tup, Ev.hInt_int, Ev.hInt_bl, Ev.hAbs_int, Ev.gMax2_ap, Ev.gMin2_ap, Ev.hLstOf_lst, Ev.hLstOf_tup, Ev.hSum_ints, Ev.hAll_bls, Ev.hAny_bls, Ev.tyD_int, Ev.tyD_bl, Ev.tyD_non, Ev.tyD_lst, Ev.tyD_tup, List.getElem?_cons_zero, List.getElem?_cons_succ, List.set_cons_zero, List.set_cons_succ, List.map_cons, List.map_nil, List.length_cons, List.length_nil, Nat.zero_add, Nat.reduceAdd, Nat.reduceLeDiff, if_true, ite_true, ite_false, turnD, unD, List.isEmpty_nil, List.isEmpty_cons, Bool.not_true, Bool.not_false, decide_true, decide_false, Option.map_some, noOw, Bool.and_true, Bool.true_and, Bool.false_and, Bool.and_false, Bool.or_true, Bool.true_or, Bool.or_false, Bool.false_or, Int.reducePow, Int.reduceNeg, Int.reduceLT, Int.reduceLE, Int.reduceAdd, Int.reduceMul, Int.reduceSub, Int.reduceMod, Int.reduceDiv, Int.reduceBEq, Int.reduceToNat, Nat.reduceLT, Nat.reduceSub, Nat.reduceMul, Int.zero_add, Int.natCast_zero, beq_self_eq_true, reduceIte, Bool.false_eq_true, eq_self, Option.isNone_some, Option.isNone_none, Option.isSome_some, Option.isSome_none])
local macro_rules | `(tactic| walk_at "evs") => `(tactic| simp -implicitDefEqProofs only [Ev.eVar_ap, Ev.kVar_fz, Ev.kVar_ow, Ev.eC_ap, Ev.kOut_some, Ev.eBin_ap, Ev.kBin_some, Ev.kBin2_some, Ev.xB_ap, Ev.kB_some, Ev.eChain_ap, Ev.kCh_some, Ev.kCh1_some, Ev.kCh2_t, Ev.kCh2_f, Ev.kCh3_some, Ev.kCh4_some, Ev.xTru_ap, Ev.kTru_some, Ev.kTru2_some, Ev.truD_non, Ev.truD_bl, Ev.truD_int, Ev.truD_lst, Ev.truD_tup, Ev.xAnd_ap, Ev.xOr_ap, Ev.xNot_ap, Ev.kAnd_t, Ev.kAnd_f, Ev.kOr_t, Ev.kOr_f, Ev.kNot_some, Ev.eAnd_ap, Ev.eOr_ap, Ev.eNot_ap, Ev.kEAnd_some, Ev.kEAnd2_t, Ev.kEAnd2_f, Ev.kEOr_some, Ev.kEOr2_t, Ev.kEOr2_f, Ev.kENot_some, Ev.kENot2_some, Ev.eIf_ap, Ev.kEIf_t, Ev.kEIf_f, Ev.eBor_ap, Ev.kBor_int, Ev.kBor_bl, Ev.kBor_non, Ev.xBor_ap, Ev.kXBor_some, Ev.fzd_fz, Ev.fzd_ow, Ev.fzd_un, Ev.aNil_ap, Ev.aCons_ap, Ev.kCons_some, Ev.kCons2_some, Ev.eTup_ap, Ev.eLst_ap, Ev.kTup_some, Ev.kLst_some, Ev.eCall_ap, Ev.kCall_some, Ev.eNeg_ap, Ev.kNeg_some, Ev.eIsi_ap, Ev.kIsi_some, Ev.eIdxV_ap, Ev.kIxV_some, Ev.kIxV1_fz, Ev.kIxV1_ow, Ev.kIxV2_ow, Ev.gIdx_tup0, Ev.gIdx_lst0, Ev.gIdx_tup1, Ev.gIdx_lst1, Ev.gIdx_tup2, Ev.gIdx_tup3, Ev.eSl_ap, Ev.kSl_some, Ev.kSl2_some, Ev.kSl3_some, Ev.oNone_ap, Ev.oSome_ap, Ev.kOs_some, Ev.sSeq_ap, Ev.kSeq_nx, Ev.kSeq_rt, Ev.kSeq_bk, Ev.kSeq_ct, Ev.sNil_ap, Ev.sBrk_ap, Ev.sCnt_ap, Ev.sIf_ap, Ev.kSIf_t, Ev.kSIf_f, Ev.sRet_ap, Ev.kRet_some, Ev.sRetV_ap, Ev.kRetV_ow, Ev.sExp_ap, Ev.kExp_some, Ev.sSet_ap, Ev.sSetN_ap, Ev.kSet_some, Ev.kSetN_some, Ev.sAsg_ap, Ev.kAsg_some, Ev.kNx_some, Ev.gN_ap, Ev.gTupD_ap, Ev.gNil_ap, Ev.gCons_ap, Ev.kG_some, Ev.sPar_ap, Ev.kPar_some, Ev.sFor_ap, Ev.kFor_some, Ev.iSeq_ap, Ev.kISeq_some, Ev.iTupF_ap, Ev.kITup_some, Ev.iScr_ap, Ev.kScr_some, Ev.iRng1_ap, Ev.kRng1_int, Ev.kRng1_nat, Ev.iRng2_ap, Ev.iEnumF_ap, Ev.kEnum_some, Ev.iZipF_ap, Ev.kZip_some, Ev.eMt_ap, Ev.kMt_ow, Ev.kMt1_some, Ev.kMt2_ow, Ev.kMt3_some, Ev.hApp_ap, Ev.sPut_ap, Ev.kPut_some, Ev.kPut1_ow, Ev.kPut2_some, Ev.kPut3_ow, Ev.kPut4_some, Ev.sInc_ap, Ev.kInc_fz, Ev.kInc2_some, Ev.gAdd_int, Ev.gSub_int, Ev.gLt_int, Ev.gLe_int, Ev.gGt_int, Ev.gGe_int, Ev.gMod_int, Ev.gFdiv_int, Ev.gMul_r, Ev.gMul_l, Ev.gAdd_lst, Ev.gIs_nn, Ev.gIs_in, Ev.gIs_bl, Ev.gIsNot_nn, Ev.gIsNot_in, Ev.gIs_am, Ev.gIsNot_am, Ev.gEq_int, Ev.gNe_int, Ev.gEq_bl, Ev.gNe_bl, Ev.g1_ap, Ev.hLen_lst, Ev.hLen_tup, Ev.hInt_int, Ev.hInt_bl, Ev.hAbs_int, Ev.gMax2_ap, Ev.gMin2_ap, Ev.hLstOf_lst, Ev.hLstOf_tup, Ev.hSum_ints, Ev.hAll_bls, Ev.hAny_bls, Ev.tyD_int, Ev.tyD_bl, Ev.tyD_non, Ev.tyD_lst, Ev.tyD_tup, List.getElem?_cons_zero, List.getElem?_cons_succ, List.set_cons_zero, List.set_cons_succ, List.map_cons, List.map_nil, List.length_cons, List.length_nil, Nat.zero_add, Nat.reduceAdd, Nat.reduceLeDiff, if_true, ite_true, ite_false, turnD, unD, List.isEmpty_nil, List.isEmpty_cons, Bool.not_true, Bool.not_false, decide_true, decide_false, Option.map_some, noOw, Bool.and_true, Bool.true_and, Bool.false_and, Bool.and_false, Bool.or_true, Bool.true_or, Bool.or_false, Bool.false_or, Int.reducePow, Int.reduceNeg, Int.reduceLT, Int.reduceLE, Int.reduceAdd, Int.reduceMul, Int.reduceSub, Int.reduceMod, Int.reduceDiv, Int.reduceBEq, Int.reduceToNat, Nat.reduceLT, Nat.reduceSub, Nat.reduceMul, Int.zero_add, Int.natCast_zero, beq_self_eq_true, reduceIte, Bool.false_eq_true, eq_self, Option.isNone_some, Option.isNone_none, Option.isSome_some, Option.isSome_none, *])
def F_at_most : Sx := (sSeq (sIf (xB (eBin gIs (eVar 1) (eC .non))) (sRet (eC (.bl true))) sNil)
    (sRet (eAnd (eBin gIsNot (eVar 0) (eC .non)) (eBin gLe (eVar 0) (eVar 1)))))
def fn_at_most : List D → Option D := runF 2 2 F_at_most
def F_is_no_more_b1 : Sx := (sIf (xAnd (xNot (xAnd (xB (eBin gInL (eVar 5) (eVar 4))) (xB (eBin gLe (eBin gIdx (eVar 4) (eVar 5)) (eVar 6))))) (xNot (xAnd (xB (eBin gIsNot (eVar 2) (eC .non))) (xB (eBin gLe (eVar 2) (eVar 6)))))) (sRet (eC (.bl false))) sNil)
def F_is_no_more : Sx := (sSeq (sAsg (gTupD (gCons (gN 2) (gCons (gN 3) gNil))) (eVar 0))
    (sSeq (sIf (xNot (xTru (eCall fn_at_most (aCons (eVar 2) (aCons (eBin gIdx (eVar 1) (eC (.int 0))) aNil))))) (sRet (eC (.bl false))) sNil)
    (sSeq (sSet 4 (eCall (g1 hDct) (aCons (eVar 3) aNil)))
    (sSeq (sFor (iSeq (eBin gIdx (eVar 1) (eC (.int 1)))) (gTupD (gCons (gN 5) (gCons (gN 6) gNil))) F_is_no_more_b1)
    (sRet (eC (.bl true)))))))
def fn_is_no_more : List D → Option D := runF 7 2 F_is_no_more
def F_l_draws_b1 : Sx := (sSeq (sSet 5 (eC (.int 0)))
    (sSeq (sIf (xBor (xB (eBin gGt (eBor (eCall (g1 hLen) (aCons (eVar 2) aNil))) (eC (.int 0))))) (sSeq (sSet 6 (eBor (eBin gMod (eCall (g1 hInt) (aCons (eVar 4) aNil)) (eBor (eCall (g1 hLen) (aCons (eVar 2) aNil))))))
    (sIf (xB (eBin gGe (eIdxV 2 (eVar 6)) (eBin gPow (eC (.int 10)) (eC (.int 18))))) (sSeq (sSet 5 (eBin gMod (eCall (g1 hInt) (aCons (eIdxV 2 (eVar 6)) aNil)) (eC (.int 1000))))
    (sPut 2 (eVar 6) (eBin gFdiv (eIdxV 2 (eVar 6)) (eC (.int 1000))))) (sSeq (sSet 7 (eBin gMod (eCall (g1 hInt) (aCons (eBin gAdd (eBin gAdd (eBin gMul (eIdxV 2 (eVar 6)) (eC (.int 48271))) (eBin gMul (eVar 4) (eC (.int 69621)))) (eC (.int 11))) aNil)) (eC (.int 2147483647))))
    (sSeq (sSet 7 (eBin gMod (eCall (g1 hInt) (aCons (eBin gAdd (eBin gMul (eVar 7) (eC (.int 16807))) (eVar 6)) aNil)) (eC (.int 2147483629))))
    (sSet 5 (eBin gMod (eCall (g1 hInt) (aCons (eBin gFdiv (eVar 7) (eC (.int 7))) aNil)) (eC (.int 1000)))))))) sNil)
    (sExp (eMt 3 hApp (aCons (eVar 5) aNil)))))
def F_l_draws_e1 : Ex := (eVar 8)
def F_l_draws : Sx := (sSeq (sSetN 2 (eComp [8] (iScr (eVar 0)) (gN 8) xYes F_l_draws_e1))
    (sSeq (sSetN 3 (eLst aNil))
    (sSeq (sFor (iRng1 (aCons (eVar 1) aNil)) (gN 4) F_l_draws_b1)
    (sRetV 3))))
def fn_l_draws : List D → Option D := runN 9 2 F_l_draws
def F_l_at_most : Sx := (sRet (eOr (eBin gIs (eVar 1) (eC .non)) (eAnd (eBin gIsNot (eVar 0) (eC .non)) (eBin gLe (eVar 0) (eVar 1)))))
def fn_l_at_most : List D → Option D := runF 2 2 F_l_at_most
def F_l_shifted : Sx := (sSeq (sIf (xB (eBin gIs (eVar 0) (eC .non))) (sRet (eC .non)) sNil)
    (sRet (eCall gMax2 (aCons (eC (.int 0)) (aCons (eBin gAdd (eVar 0) (eVar 1)) aNil)))))
def fn_l_shifted : List D → Option D := runF 2 2 F_l_shifted
def F_l_one_of_b1 : Sx := (sIf (xAnd (xB (eBin gEq (eCall fn_l_at_most (aCons (eVar 3) (aCons (eVar 2) aNil))) (eVar 1))) (xB (eBin gNe (eVar 3) (eVar 2)))) (sSet 2 (eVar 3)) sNil)
def F_l_one_of : Sx := (sSeq (sSet 2 (eBin gIdx (eVar 0) (eC (.int 0))))
    (sSeq (sFor (iSeq (eVar 0)) (gN 3) F_l_one_of_b1)
    (sRet (eVar 2))))
def fn_l_one_of : List D → Option D := runF 4 2 F_l_one_of
def F_l_term_value_b1 : Sx := (sIf (xAnd (xB (eBin gIsNot (eBin gIdx (eVar 1) (eVar 3)) (eC .non))) (xOr (xB (eBin gIs (eVar 2) (eC .non))) (xB (eBin gLt (eBin gAdd (eBin gIdx (eVar 1) (eVar 3)) (eVar 4)) (eVar 2))))) (sSet 2 (eBin gAdd (eBin gIdx (eVar 1) (eVar 3)) (eVar 4))) sNil)
def F_l_term_value : Sx := (sSeq (sSet 2 (eBin gIdx (eVar 0) (eC (.int 0))))
    (sSeq (sFor (iSeq (eBin gIdx (eVar 0) (eC (.int 1)))) (gTupD (gCons (gN 3) (gCons (gN 4) gNil))) F_l_term_value_b1)
    (sRet (eVar 2))))
def fn_l_term_value : List D → Option D := runF 5 2 F_l_term_value
def F_l_term_t1 : Tx := (xOr (xB (eBin gIs (eVar 1) (eC .non))) (xB (eBin gLt (eVar 4) (eVar 1))))
def F_l_term_e1 : Ex := (eTup (aCons (eVar 3) (aCons (eVar 4) aNil)))
def F_l_term_b1 : Sx := (sIf (xB (eBin gEq (eBin gMod (eCall (g1 hInt) (aCons (eBin gIdx (eVar 0) (eBin gAdd (eC (.int 1)) (eVar 3))) aNil)) (eC (.int 3))) (eC (.int 0)))) (sExp (eMt 2 hApp (aCons (eTup (aCons (eVar 3) (aCons (eBin gSub (eBin gMod (eCall (g1 hInt) (aCons (eBin gFdiv (eBin gIdx (eVar 0) (eBin gAdd (eC (.int 1)) (eVar 3))) (eC (.int 3))) aNil)) (eC (.int 15))) (eC (.int 7))) aNil))) aNil))) sNil)
def F_l_term : Sx := (sSeq (sSet 1 (eBin gIdx (eLst (aCons (eC .non) (aCons (eC .non) (aCons (eC (.int 1)) (aCons (eC (.int 3)) (aCons (eC (.int 4)) (aCons (eC (.int 7)) (aCons (eC (.int 12)) aNil)))))))) (eBin gMod (eCall (g1 hInt) (aCons (eBin gIdx (eVar 0) (eC (.int 0))) aNil)) (eC (.int 7)))))
    (sSeq (sSetN 2 (eLst aNil))
    (sSeq (sFor (iRng1 (aCons (eC (.int 4)) aNil)) (gN 3) F_l_term_b1)
    (sRet (eTup (aCons (eVar 1) (aCons (eComp [3, 4] (iSeq (eVar 2)) (gTupD (gCons (gN 3) (gCons (gN 4) gNil))) F_l_term_t1 F_l_term_e1) aNil)))))))
def fn_l_term : List D → Option D := runF 5 1 F_l_term
def F_l_no_more_b1 : Sx := (sPut 5 (eVar 6) (eBin gSub (eVar 4) (eVar 7)))
def F_l_no_more_e1 : Ex := (eC (.int 0))
def F_l_no_more_e2 : Ex := (eCall (g1 hAbs) (aCons (eVar 7) aNil))
def F_l_no_more : Sx := (sSeq (sAsg (gTupD (gCons (gN 2) (gCons (gN 3) gNil))) (eVar 0))
    (sSeq (sIf (xAnd (xB (eBin gIs (eVar 2) (eC .non))) (xB (eBin gEq (eCall (g1 hLen) (aCons (eVar 3) aNil)) (eC (.int 0))))) (sRet (eAnd (eBin gIs (eBin gIdx (eVar 1) (eC (.int 0))) (eC .non)) (eBin gEq (eCall (g1 hLen) (aCons (eBin gIdx (eVar 1) (eC (.int 1))) aNil)) (eC (.int 0))))) sNil)
    (sSeq (sSet 4 (eVar 2))
    (sSeq (sIf (xB (eBin gIs (eVar 2) (eC .non))) (sSeq (sSet 4 (eBin gAdd (eC (.int 1000)) (eBin gMul (eC (.int 2)) (eCall (g1 hSum) (aCons (eComp [6, 7] (iSeq (eBin gAdd (eVar 3) (eBin gIdx (eVar 1) (eC (.int 1))))) (gTupD (gCons (gN 6) (gCons (gN 7) gNil))) xYes F_l_no_more_e2) aNil)))))
    (sIf (xB (eBin gIsNot (eBin gIdx (eVar 1) (eC (.int 0))) (eC .non))) (sSet 4 (eBin gAdd (eVar 4) (eBin gIdx (eVar 1) (eC (.int 0))))) sNil)) sNil)
    (sSeq (sSetN 5 (eComp [8] (iRng1 (aCons (eC (.int 12)) aNil)) (gN 8) xYes F_l_no_more_e1))
    (sSeq (sFor (iSeq (eVar 3)) (gTupD (gCons (gN 6) (gCons (gN 7) gNil))) F_l_no_more_b1)
    (sRet (eCall fn_l_at_most (aCons (eVar 4) (aCons (eCall fn_l_term_value (aCons (eVar 1) (aCons (eVar 5) aNil))) aNil))))))))))
def fn_l_no_more : List D → Option D := runF 9 2 F_l_no_more
def F_l_near_t1 : Tx := (xOr (xB (eBin gIs (eVar 2) (eC .non))) (xB (eBin gLt (eVar 7) (eVar 2))))
def F_l_near_e1 : Ex := (eTup (aCons (eVar 6) (aCons (eVar 7) aNil)))
def F_l_near : Sx := (sSeq (sAsg (gTupD (gCons (gN 2) (gCons (gN 3) gNil))) (eVar 0))
    (sSeq (sSet 4 (eCall (g1 hLstOf) (aCons (eVar 3) aNil)))
    (sSeq (sIf (xB (eBin gGt (eCall (g1 hLen) (aCons (eVar 4) aNil)) (eC (.int 0)))) (sSeq (sSet 5 (eBin gMod (eCall (g1 hInt) (aCons (eBin gIdx (eVar 1) (eC (.int 0))) aNil)) (eCall (g1 hLen) (aCons (eVar 4) aNil))))
    (sSeq (sAsg (gTupD (gCons (gN 6) (gCons (gN 7) gNil))) (eBin gIdx (eVar 4) (eVar 5)))
    (sSet 4 (eBin gAdd (eBin gAdd (eSl (eVar 4) oNone (oSome (eVar 5))) (eBin gIdx (eLst (aCons (eLst (aCons (eTup (aCons (eVar 6) (aCons (eBin gSub (eBin gAdd (eVar 7) (eBin gMod (eCall (g1 hInt) (aCons (eBin gIdx (eVar 1) (eC (.int 1))) aNil)) (eC (.int 3)))) (eC (.int 1))) aNil))) aNil)) (aCons (eLst aNil) aNil))) (eCall (g1 hInt) (aCons (eBin gEq (eBin gMod (eCall (g1 hInt) (aCons (eBin gIdx (eVar 1) (eC (.int 2))) aNil)) (eC (.int 3))) (eC (.int 0))) aNil)))) (eSl (eVar 4) (oSome (eBin gAdd (eVar 5) (eC (.int 1)))) oNone))))) sNil)
    (sSeq (sIf (xB (eBin gEq (eBin gMod (eCall (g1 hInt) (aCons (eBin gIdx (eVar 1) (eC (.int 3))) aNil)) (eC (.int 3))) (eC (.int 0)))) (sSet 2 (eBin gIdx (eLst (aCons (eC .non) (aCons (eC (.int 1)) (aCons (eC (.int 5)) (aCons (eC (.int 12)) aNil))))) (eBin gMod (eCall (g1 hInt) (aCons (eBin gIdx (eVar 1) (eC (.int 4))) aNil)) (eC (.int 4))))) sNil)
    (sRet (eTup (aCons (eVar 2) (aCons (eComp [6, 7] (iSeq (eVar 4)) (gTupD (gCons (gN 6) (gCons (gN 7) gNil))) F_l_near_t1 F_l_near_e1) aNil))))))))
def fn_l_near : List D → Option D := runF 8 2 F_l_near
def F_law_k64_e1 : Ex := (eBin gIdx (eLst (aCons (eBin gMod (eCall (g1 hInt) (aCons (eBin gIdx (eVar 1) (eBin gAdd (eBin gAdd (eC (.int 20)) (eBin gMul (eC (.int 4)) (eVar 8))) (eVar 10))) aNil)) (eC (.int 16))) (aCons (eC .non) aNil))) (eCall (g1 hInt) (aCons (eBin gEq (eBin gMod (eCall (g1 hInt) (aCons (eBin gIdx (eVar 1) (eBin gAdd (eBin gAdd (eC (.int 20)) (eBin gMul (eC (.int 4)) (eVar 8))) (eVar 10))) aNil)) (eC (.int 11))) (eC (.int 10))) aNil)))
def F_law_k64_b1 : Sx := (sSeq (sSet 9 (eComp [10] (iRng1 (aCons (eC (.int 4)) aNil)) (gN 10) xYes F_law_k64_e1))
    (sIf (xAnd (xTru (eVar 7)) (xNot (xTru (eCall fn_l_at_most (aCons (eCall fn_l_term_value (aCons (eVar 5) (aCons (eVar 9) aNil))) (aCons (eCall fn_l_term_value (aCons (eVar 6) (aCons (eVar 9) aNil))) aNil)))))) (sRet (eC (.bl false))) sNil))
def F_law_k64_b2 : Sx := (sSeq (sSet 7 (eCall fn_is_no_more (aCons (eVar 5) (aCons (eVar 6) aNil))))
    (sSeq (sIf (xOr (xNot (xTru (eIsi "bool" (eVar 7)))) (xB (eBin gNe (eVar 7) (eCall fn_l_no_more (aCons (eVar 5) (aCons (eVar 6) aNil)))))) (sRet (eC (.bl false))) sNil)
    (sFor (iRng1 (aCons (eC (.int 8)) aNil)) (gN 8) F_law_k64_b1)))
def F_law_k64 : Sx := (sSeq (sSet 1 (eCall fn_l_draws (aCons (eVar 0) (aCons (eC (.int 80)) aNil))))
    (sSeq (sPar 2 3 (aCons (eCall fn_l_term (aCons (eSl (eVar 1) oNone (oSome (eC (.int 5)))) aNil)) (aCons (eCall fn_l_term (aCons (eSl (eVar 1) (oSome (eC (.int 5))) (oSome (eC (.int 10)))) aNil)) aNil)))
    (sSeq (sIf (xB (eBin gEq (eBin gMod (eCall (g1 hInt) (aCons (eBin gIdx (eVar 1) (eC (.int 10))) aNil)) (eC (.int 2))) (eC (.int 0)))) (sSet 3 (eCall fn_l_near (aCons (eVar 2) (aCons (eSl (eVar 1) (oSome (eC (.int 11))) (oSome (eC (.int 16)))) aNil)))) sNil)
    (sSeq (sSet 4 (eCall (g1 hRepr) (aCons (eTup (aCons (eVar 2) (aCons (eVar 3) aNil))) aNil)))
    (sSeq (sFor (iSeq (eLst (aCons (eTup (aCons (eVar 2) (aCons (eVar 3) aNil))) (aCons (eTup (aCons (eVar 3) (aCons (eVar 2) aNil))) (aCons (eTup (aCons (eVar 2) (aCons (eVar 2) aNil))) aNil))))) (gTupD (gCons (gN 5) (gCons (gN 6) gNil))) F_law_k64_b2)
    (sRet (eAnd (eBin gIs (eCall fn_is_no_more (aCons (eVar 2) (aCons (eVar 2) aNil))) (eC (.bl true))) (eBin gEq (eCall (g1 hRepr) (aCons (eTup (aCons (eVar 2) (aCons (eVar 3) aNil))) aNil)) (eVar 4)))))))))
def fn_law_k64 : List D → Option D := runF 11 1 F_law_k64
theorem at_most_eq (a b : Amt) : fn_at_most [am a, am b] = some (.bl (atMost a b)) := by
  cases a <;> cases b <;> rfl
theorem lat_most_eq (a b : Amt) : fn_l_at_most [am a, am b] = some (.bl (atMost a b)) := by
  cases a <;> cases b <;> rfl
def drawsSt (ns : List Int) (k : Int) (m : Nat) (acc : List Int) (ρ : Env) : Prop :=
  ∃ rests s4 s5 s6 s7 s8, ρ = [.fz (.scr ns), .fz (.int k), .ow (.lst (List.map D.int rests)), .ow (.lst (acc.map D.int)), s4, s5, s6, s7, s8] ∧ rests.length = m
theorem draws_turn (ns : List Int) (k : Int) (rests acc : List Int) (s4 s5 s6 s7 s8 : Sl) (x : Nat) (hr : rests.length < 1000000000) (hA : acc.length ≤ 1000000) :
   ∃ v ρ', turnD (gN 4) F_l_draws_b1 (.int (0 + (x : Int))) [.fz (.scr ns), .fz (.int k), .ow (.lst (rests.map D.int)), .ow (.lst (acc.map D.int)), s4, s5, s6, s7, s8] = some (.nx ρ') ∧ (0 ≤ v ∧ v < 1000) ∧ drawsSt ns k rests.length (acc ++ [v]) ρ' := by
  have hA' : (acc.map D.int).length ≤ 1000000 := by simpa using hA
  unfold F_l_draws_b1
  walk_at "ev"
  rcases Nat.eq_zero_or_pos rests.length with h0 | h0
  · have h1 : decide ((0 : Int) < ((List.map D.int rests).length : Int)) = false := by simp [h0]
    simp only [h1]
    walk_at "ev"
    simp only [Ev.hApp_ap hA']
    walk_at "ev"
    unfold drawsSt; simp only [List.map_append, List.map_cons, List.map_nil]
    exact ⟨0, _, rfl, by omega, rests, _, _, _, _, _, rfl, rfl⟩
  · have h1 : decide ((0 : Int) < ((List.map D.int rests).length : Int)) = true := by simp; omega
    have h2 : (0 : Int) < ((List.map D.int rests).length : Int) := by simp; omega
    simp only [h1]
    walk_at "ev"
    simp only [Ev.gMod_int h2]
    walk_at "ev"
    generalize hi : (x : Int) % ((List.map D.int rests).length : Int) = i
    have hi0 : 0 ≤ i := by rw [← hi]; exact Int.emod_nonneg _ (by omega)
    have hi1 : i < rests.length := by rw [← hi]; have := Int.emod_lt_of_pos (x : Int) h2; simpa using this
    have hx : gIdx (.lst (rests.map D.int)) (.int i) = some (.int (rests.getD i.toNat 0)) := gIdx_ints hi0 hi1
    generalize rests.getD i.toNat 0 = r at hx
    have hp : gPow (.int 10) (.int 18) = some (.int (10 ^ 18)) := rfl
    have hix : ixD (List.map D.int rests).length i = some i.toNat := ixD_int hi0 (by simpa using hi1)
    walk_at "evs"
    by_cases hb : (1000000000000000000 : Int) ≤ r
    · walk_at "evs"
      unfold drawsSt; simp only [List.map_append, List.map_cons, List.map_nil]
      exact ⟨r % 1000, _, rfl, by omega, rests.set i.toNat (r / 1000), _, _, _, _, _, by rw [List.map_set], by simp⟩
    · walk_at "evs"

      unfold drawsSt; simp only [List.map_append, List.map_cons, List.map_nil]
      exact ⟨_, _, rfl, by omega, rests, _, _, _, _, _, rfl, rfl⟩
theorem draws_eq (ns : List Int) (hn : ns.length ≤ 63) (n : Nat) (h : n ≤ 1000000) : ∃ vs : List Int, fn_l_draws [.scr ns, .int (n : Int)] = some (.lst (vs.map D.int)) ∧ vs.length = n ∧ ∀ v ∈ vs, 0 ≤ v ∧ v < 1000 := by
  have hC : ∀ ρ, ρ = [.fz (.scr ns), .fz (.int n), .un, .un, .un, .un, .un, .un, .un] → eComp [8] (iScr (eVar 0)) (gN 8) xYes F_l_draws_e1 ρ = some (.lst (ns.map D.int), ρ) := by
    intro ρ hρ
    refine eComp_map (xs := ns) D.int D.int ?_ (by omega) ?_ fun x _ => ?_
    · subst hρ; rfl
    · subst hρ; rfl
    · subst hρ; exact ⟨_, rfl, rfl, _, rfl, rfl⟩
  have hC := hC _ rfl
  obtain ⟨ρ', h1, vs, h2, h3, rests, s4, s5, s6, s7, s8, h4, h5⟩ := forD_range (g := gN 4) (F := F_l_draws_b1)
    (fun k ρ => ∃ acc : List Int, acc.length = k ∧ (∀ v ∈ acc, 0 ≤ v ∧ v < 1000) ∧ drawsSt ns n ns.length acc ρ) n
    [.fz (.scr ns), .fz (.int n), .ow (.lst (ns.map D.int)), .ow (.lst []), .un, .un, .un, .un, .un] ⟨[], rfl, by simp, ns, _, _, _, _, _, rfl, rfl⟩
    fun k ρ hk ⟨acc, ha, hb, rests, s4, s5, s6, s7, s8, e, hl⟩ => by
      subst e
      obtain ⟨v, ρ', h1, h2, h3⟩ := draws_turn ns n rests acc s4 s5 s6 s7 s8 k (by omega) (by omega)
      rw [Int.zero_add] at h1
      refine ⟨ρ', h1, acc ++ [v], by simp [ha], fun w hw => ?_, by rw [← hl]; exact h3⟩
      rcases List.mem_append.mp hw with hw | hw
      · exact hb w hw
      · rw [List.mem_singleton.mp hw]; exact h2
  subst h4
  have hK : ∀ ρ, Ev.kRng1 (some ([D.int (n : Int)], ρ)) = some (rangeD 0 n, ρ) := fun ρ => Ev.kRng1_nat (by omega)
  clear h
  refine ⟨vs, runN_rt rfl ?_, h2, h3⟩
  rw [show startD 9 [.scr ns, .int (n : Int)] = [Sl.fz (.scr ns), .fz (.int n), .un, .un, .un, .un, .un, .un, .un] from rfl]
  unfold F_l_draws
  walk_at "evs"
/-! ### terms of law k64 -/
theorem cutD_map {α : Type} {enc : α → D} {xs : List α} {a b : Nat} (hb : b ≤ xs.length) : cutD (xs.map enc) (some (a : Int)) (some (b : Int)) = (((xs.drop (min a xs.length)).take (b - min a xs.length))).map enc := by
  unfold cutD
  simp only [List.length_map, HT.sIx_nat, Nat.min_eq_left hb]
  rw [← List.map_drop, ← List.map_take]
theorem cutD_map0 {α : Type} {enc : α → D} {xs : List α} {b : Nat} (hb : b ≤ xs.length) : cutD (xs.map enc) none (some (b : Int)) = (xs.take b).map enc := by
  unfold cutD
  simp only [List.length_map, HT.sIx_nat, HT.sIx_none, Nat.min_eq_left hb]
  rw [List.drop_zero, Nat.sub_zero, ← List.map_take]
theorem cutD_mapE {α : Type} {enc : α → D} {xs : List α} {a : Nat} (ha : a ≤ xs.length) : cutD (xs.map enc) (some (a : Int)) none = (xs.drop a).map enc := by
  unfold cutD
  simp only [List.length_map, HT.sIx_nat, HT.sIx_none, Nat.min_eq_left ha]
  rw [← List.map_drop, ← List.map_take]
  congr 1
  rw [List.take_of_length_le (by simp)]
abbrev Arc := Nat × Int
abbrev Term := Amt × List Arc
def arcD (p : Arc) : D := .tup [.int (p.1 : Int), .int p.2]
def termD (t : Term) : D := .tup [am t.1, .lst (t.2.map arcD)]
structure GoodT (t : Term) : Prop where
  lim : ∀ l, t.1 = some l → 1 ≤ l ∧ l ≤ 1000
  len : t.2.length ≤ 4
  cells : (t.2.map Prod.fst).Pairwise (· < ·)
  small : ∀ p ∈ t.2, p.1 < 4 ∧ -1000 ≤ p.2 ∧ p.2 ≤ 1000 ∧ ∀ l, t.1 = some l → p.2 < l
theorem gIdx_ams {as : List Amt} {i : Int} (h0 : 0 ≤ i) (h : i < as.length) : ∃ a ∈ as, gIdx (.lst (as.map am)) (.int i) = some (am a) := by
  refine ⟨as.getD i.toNat default, ?_, gIdx_map h0 h⟩
  have : i.toNat < as.length := by omega
  rw [List.getD_eq_getElem?_getD, List.getElem?_eq_getElem this]
  exact List.getElem_mem this
/-- the filter at the end of _law_term and _law_near -/
def undr (lim : Amt) (p : Arc) : Bool := match lim with
  | none => true
  | some l => decide (p.2 < l)
theorem term_turn (vs : List Int) (hv : ∀ v ∈ vs, 0 ≤ v) (h5 : vs.length = 5) (lim : Amt) (arcs : List Arc) (s3 s4 : Sl) (k : Nat) (hk : k < 4) (ha : arcs.length ≤ 1000) :
    ∃ arcs', turnD (gN 3) F_l_term_b1 (.int (k : Int)) [.fz (.lst (vs.map D.int)), .fz (am lim), .ow (.lst (arcs.map arcD)), s3, s4] = some (.nx [.fz (.lst (vs.map D.int)), .fz (am lim), .ow (.lst (arcs'.map arcD)), .fz (.int k), s4]) ∧ (arcs' = arcs ∨ ∃ c : Int, -7 ≤ c ∧ c ≤ 7 ∧ arcs' = arcs ++ [(k, c)]) := by
  have hA' : (arcs.map arcD).length ≤ 1000000 := by rw [List.length_map]; omega
  have hx : gIdx (.lst (vs.map D.int)) (.int (1 + (k : Int))) = some (.int (vs.getD (1 + k) 0)) := by
    rw [gIdx_ints (by omega) (by omega)]; congr
  have hb : 0 ≤ vs.getD (1 + k) 0 := by
    rw [List.getD_eq_getElem?_getD, List.getElem?_eq_getElem (by omega)]
    exact hv _ (List.getElem_mem _)
  generalize vs.getD (1 + k) 0 = r at hx hb
  unfold F_l_term_b1
  by_cases hm : r % 3 == 0
  · walk_at "evs"
    exact ⟨arcs ++ [(k, r / 3 % 15 - 7)], by rw [List.map_append]; rfl, .inr ⟨_, by omega, by omega, rfl⟩⟩
  · walk_at "evs"
    exact ⟨arcs, rfl, .inl rfl⟩
theorem arcs_sorted {arcs : List Arc} {k : Nat} {c : Int} (h : (arcs.map Prod.fst).Pairwise (· < ·)) (hk : ∀ p ∈ arcs, p.1 < k) : ((arcs ++ [(k, c)]).map Prod.fst).Pairwise (· < ·) := by
  rw [List.map_append, List.pairwise_append]
  refine ⟨h, by simp, fun a ha b hb => ?_⟩
  obtain ⟨p, hp, rfl⟩ := List.mem_map.mp ha
  simp only [List.map_cons, List.map_nil, List.mem_singleton] at hb
  subst hb
  exact hk p hp
theorem undr_eq {lim : Amt} {p : Arc} {ρ : Env} {i1 i2 : Nat} (h1 : ρ[i1]? = some (.fz (am lim))) (h2 : ρ[i2]? = some (.fz (.int p.2))) :
    (xOr (xB (eBin gIs (eVar i1) (eC .non))) (xB (eBin gLt (eVar i2) (eVar i1)))) ρ = some (undr lim p, ρ) := by
  cases lim with
  | none =>
    have h1' : ρ[i1]? = some (.fz .non) := h1
    clear h1
    walk_at "evs"
    rfl
  | some l =>
    have h1' : ρ[i1]? = some (.fz (.int l)) := h1
    clear h1
    walk_at "evs"
    rfl
theorem term_eq (vs : List Int) (hv : ∀ v ∈ vs, 0 ≤ v) (h5 : vs.length = 5) : ∃ t, fn_l_term [.lst (vs.map D.int)] = some (termD t) ∧ GoodT t ∧ ∀ p ∈ t.2, -7 ≤ p.2 ∧ p.2 ≤ 7 := by
  have hx : gIdx (.lst (vs.map D.int)) (.int 0) = some (.int (vs.getD 0 0)) := gIdx_ints (by omega) (by omega)
  have hb : 0 ≤ vs.getD 0 0 := by
    rw [List.getD_eq_getElem?_getD, List.getElem?_eq_getElem (by omega)]
    exact hv _ (List.getElem_mem _)
  generalize vs.getD 0 0 = r at hx hb
  obtain ⟨lim, hm, hL⟩ := gIdx_ams (as := [none, none, some 1, some 3, some 4, some 7, some 12]) (i := r % 7) (by omega) (by simp; omega)
  have hL' : gIdx (.lst [.non, .non, .int 1, .int 3, .int 4, .int 7, .int 12]) (.int (r % 7)) = some (am lim) := hL
  obtain ⟨ρ', h1, arcs, s3, h2, hno, hlen, h3, h4⟩ := forD_range (g := gN 3) (F := F_l_term_b1)
    (fun k ρ => ∃ arcs s3, ρ = [.fz (.lst (vs.map D.int)), .fz (am lim), .ow (.lst (arcs.map arcD)), s3, .un] ∧ noOw [0] [s3] = true ∧ arcs.length ≤ k ∧ (arcs.map Prod.fst).Pairwise (· < ·) ∧ ∀ p ∈ arcs, p.1 < k ∧ -7 ≤ p.2 ∧ p.2 ≤ 7) 4
    [.fz (.lst (vs.map D.int)), .fz (am lim), .ow (.lst []), .un, .un] ⟨[], _, rfl, rfl, by simp, by simp, by simp⟩
    fun k ρ hk ⟨arcs, s3, e, _, hl, ha, hb⟩ => by
      subst e
      obtain ⟨arcs', h1, h2⟩ := term_turn vs hv h5 lim arcs s3 .un k hk (by omega)
      refine ⟨_, h1, arcs', _, rfl, rfl, ?_⟩
      rcases h2 with rfl | ⟨c, h2, h3, rfl⟩
      · exact ⟨by omega, ha, fun p hp => by have := hb p hp; omega⟩
      · refine ⟨by simp; omega, arcs_sorted ha fun p hp => (hb p hp).1, fun p hp => ?_⟩
        rcases List.mem_append.mp hp with hp | hp
        · have := hb p hp; omega
        · rw [List.mem_singleton.mp hp]; exact ⟨by simp, h2, h3⟩
  subst h2
  have hC : eComp [3, 4] (iSeq (eVar 2)) (gTupD (gCons (gN 3) (gCons (gN 4) gNil))) F_l_term_t1 F_l_term_e1 [.fz (.lst (vs.map D.int)), .fz (am lim), .ow (.lst (arcs.map arcD)), s3, .un]
      = some (.lst ((arcs.filter (undr lim)).map arcD), [.fz (.lst (vs.map D.int)), .fz (am lim), .fz (.lst (arcs.map arcD)), s3, .un]) := by
    refine eComp_eq arcD (undr lim) arcD (xs := arcs) rfl (by omega) ?_ fun p hq => ?_
    · cases s3 with
      | ow d => simp [noOw] at hno
      | _ => rfl
    · refine ⟨[.fz (.lst (vs.map D.int)), .fz (am lim), .fz (.lst (arcs.map arcD)), .fz (.int p.1), .fz (.int p.2)], [.fz (.lst (vs.map D.int)), .fz (am lim), .fz (.lst (arcs.map arcD)), .fz (.int p.1), .fz (.int p.2)], rfl, undr_eq rfl rfl, rfl, fun _ => ⟨[.fz (.lst (vs.map D.int)), .fz (am lim), .fz (.lst (arcs.map arcD)), .fz (.int p.1), .fz (.int p.2)], rfl, rfl⟩⟩
  refine ⟨(lim, arcs.filter (undr lim)), runF_rt rfl ?_, ?_⟩
  · rw [show startD 5 [.lst (vs.map D.int)] = [Sl.fz (.lst (vs.map D.int)), .un, .un, .un, .un] from rfl]
    unfold F_l_term
    clear hv h5 hL hm h4 h3
    walk_at "evs"
    rfl
  · refine ⟨⟨?_, Nat.le_trans (List.length_filter_le _ _) hlen, ?_, ?_⟩, fun p hp => (h4 p (List.mem_filter.mp hp).1).2⟩
    · intro l hl
      simp only [List.mem_cons, List.not_mem_nil] at hm
      simp only at hl
      subst hl
      simp at hm
      omega
    · exact h3.sublist ((List.filter_sublist (l := arcs)).map _)
    · intro p hp
      obtain ⟨hp1, hp2⟩ := List.mem_filter.mp hp
      have := h4 p hp1
      refine ⟨by omega, by omega, by omega, fun l hl => ?_⟩
      simp only at hl
      rw [hl] at hp2
      simpa [undr] using hp2
/-! ### the value of a term, and being no more -/
def amtD (a : Amt) : D := am a
def tvStep (x : List Amt) (f : Amt) (p : Arc) : Amt := match x.getD p.1 none with
  | none => f
  | some v => (match f with
    | none => some (v + p.2)
    | some u => if v + p.2 < u then some (v + p.2) else some u)
def termValue (t : Term) (x : List Amt) : Amt := t.2.foldl (tvStep x) t.1
theorem tv_turn (t : Term) (x : List Amt) (f : Amt) (p : Arc) (s3 s4 : Sl) (h : p.1 < x.length) :
    turnD (gTupD (gCons (gN 3) (gCons (gN 4) gNil))) F_l_term_value_b1 (arcD p) [.fz (termD t), .fz (.lst (x.map am)), .fz (am f), s3, s4] = some (.nx [.fz (termD t), .fz (.lst (x.map am)), .fz (am (tvStep x f p)), .fz (.int p.1), .fz (.int p.2)]) := by
  have hx : gIdx (.lst (x.map am)) (.int (p.1 : Int)) = some (am (x.getD p.1 none)) := gIdx_nat h
  unfold F_l_term_value_b1 tvStep arcD
  generalize x.getD p.1 none = y at hx
  cases y with
  | none => cases f <;> (simp only [am] at hx ⊢; walk_at "evs")
  | some v => cases f with
    | none => simp only [am] at hx ⊢; walk_at "evs"
    | some u =>
      simp only [am] at hx ⊢
      by_cases hu : v + p.2 < u
      · walk_at "evs"
      · walk_at "evs"
theorem term_value_eq (t : Term) (x : List Amt) (h : ∀ p ∈ t.2, p.1 < x.length) : fn_l_term_value [termD t, .lst (x.map am)] = some (am (termValue t x)) := by
  have key : ∀ (arcs : List Arc) (f : Amt) (s3 s4 : Sl), (∀ p ∈ arcs, p.1 < x.length) → ∃ s3' s4', forD (gTupD (gCons (gN 3) (gCons (gN 4) gNil))) F_l_term_value_b1 (arcs.map arcD) [.fz (termD t), .fz (.lst (x.map am)), .fz (am f), s3, s4] = some (.nx [.fz (termD t), .fz (.lst (x.map am)), .fz (am (arcs.foldl (tvStep x) f)), s3', s4']) := by
    intro arcs
    induction arcs with
    | nil => intro f s3 s4 _; exact ⟨_, _, rfl⟩
    | cons p arcs ih =>
      intro f s3 s4 hp
      rw [List.map_cons, forD_nx (tv_turn t x f p s3 s4 (hp p List.mem_cons_self))]
      exact ih _ _ _ fun q hq => hp q (List.mem_cons_of_mem _ hq)
  obtain ⟨s3, s4, h1⟩ := key t.2 t.1 .un .un h
  clear key h
  obtain ⟨l, arcs⟩ := t
  refine runF_rt rfl ?_
  rw [show startD 5 [termD (l, arcs), .lst (x.map am)] = [Sl.fz (termD (l, arcs)), .fz (.lst (x.map am)), .un, .un, .un] from rfl]
  unfold F_l_term_value
  simp only [termD, termValue] at h1 ⊢
  walk_at "evs"
def lookArc (arcs : List Arc) (j : Nat) : Option Int := match arcs with
  | [] => none
  | p :: r => if p.1 = j then some p.2 else lookArc r j
def arcKeys (arcs : List Arc) : List Key := arcs.map fun p => Sum.inl (p.1 : Int)
def arcVals (arcs : List Arc) : List D := arcs.map fun p => D.int p.2
theorem pairs_arcs : ∀ arcs : List Arc, pairsD (arcs.map arcD) = some (arcs.map fun p => (Sum.inl (p.1 : Int), D.int p.2))
  | [] => rfl
  | p :: r => by simp [pairsD, arcD, keyD, pairs_arcs r]
theorem hDct_arcs {arcs : List Arc} (h : (arcs.map Prod.fst).Pairwise (· < ·)) : hDct (.lst (arcs.map arcD)) = some (.dct (arcKeys arcs) (arcVals arcs)) := by
  have h1 : (arcKeys arcs).Nodup := by
    unfold arcKeys
    refine List.pairwise_map.mpr ((List.pairwise_map.mp h).imp fun {a b} hab => ?_)
    intro e
    have := Sum.inl.inj e
    omega
  unfold arcKeys at h1
  simp only [hDct, pairs_arcs, List.map_map]
  exact if_pos h1
theorem dget_arcs (j : Nat) : ∀ arcs : List Arc, dget (arcKeys arcs) (arcVals arcs) (Sum.inl (j : Int)) = (lookArc arcs j).map D.int
  | [] => rfl
  | p :: r => by
    have ih := dget_arcs j r
    simp only [arcKeys, arcVals] at ih ⊢
    simp only [List.map_cons, dget, lookArc]
    by_cases e : p.1 = j
    · subst e; simp
    · have : ¬ (Sum.inl (p.1 : Int) : Key) = Sum.inl (j : Int) := fun z => e (by have := Sum.inl.inj z; omega)
      rw [if_neg this, if_neg e]
      exact ih
def noMoreArc (t : Term) (q : Arc) : Bool := (match lookArc t.2 q.1 with | some c => decide (c ≤ q.2) | none => false) || (match t.1 with | some l => decide (l ≤ q.2) | none => false)
def noMore (t o : Term) : Bool := atMost t.1 o.1 && o.2.all (noMoreArc t)
theorem inm_turn (t o : Term) (q : Arc) (s5 s6 : Sl) (lim : Amt) (hl : t.1 = lim) :
    (noMoreArc t q = false ∧ turnD (gTupD (gCons (gN 5) (gCons (gN 6) gNil))) F_is_no_more_b1 (arcD q) [.fz (termD t), .fz (termD o), .fz (am lim), .fz (.lst (t.2.map arcD)), .fz (.dct (arcKeys t.2) (arcVals t.2)), s5, s6] = some (.rt (.bl false))) ∨
    (noMoreArc t q = true ∧ turnD (gTupD (gCons (gN 5) (gCons (gN 6) gNil))) F_is_no_more_b1 (arcD q) [.fz (termD t), .fz (termD o), .fz (am lim), .fz (.lst (t.2.map arcD)), .fz (.dct (arcKeys t.2) (arcVals t.2)), s5, s6] = some (.nx [.fz (termD t), .fz (termD o), .fz (am lim), .fz (.lst (t.2.map arcD)), .fz (.dct (arcKeys t.2) (arcVals t.2)), .fz (.int q.1), .fz (.int q.2)])) := by
  have hg := dget_arcs q.1 t.2
  have hin : gInL (.int (q.1 : Int)) (.dct (arcKeys t.2) (arcVals t.2)) = some (.bl (lookArc t.2 q.1).isSome) := by
    simp only [gInL, gIn, memD, keyD, hg, Option.isSome_map]
    try rfl
  have hix : gIdx (.dct (arcKeys t.2) (arcVals t.2)) (.int (q.1 : Int)) = (lookArc t.2 q.1).map D.int := by
    simp only [gIdx, keyD, Option.bind_some, hg]
  unfold F_is_no_more_b1 noMoreArc arcD
  rw [hl]
  generalize lookArc t.2 q.1 = y at hin hix
  clear hg hl
  cases y with
  | none =>
    cases lim with
    | none => left; simp only [am] at *; refine ⟨rfl, ?_⟩; walk_at "evs"
    | some l =>
      simp only [am] at *
      by_cases hb : l ≤ q.2
      · right; refine ⟨by simp [hb], ?_⟩; walk_at "evs"
      · left; refine ⟨by simp [hb], ?_⟩; walk_at "evs"
  | some c =>
    by_cases hc : c ≤ q.2
    · right; refine ⟨by simp [hc], ?_⟩
      cases lim with
      | none => simp only [am] at *; walk_at "evs"
      | some l => simp only [am] at *; walk_at "evs"
    · cases lim with
      | none => left; simp only [am] at *; refine ⟨by simp [hc], ?_⟩; walk_at "evs"
      | some l =>
        simp only [am] at *
        by_cases hb : l ≤ q.2
        · right; refine ⟨by simp [hb], ?_⟩; walk_at "evs"
        · left; refine ⟨by simp [hb, hc], ?_⟩; walk_at "evs"
theorem is_no_more_eq (t o : Term) (h : (t.2.map Prod.fst).Pairwise (· < ·)) : fn_is_no_more [termD t, termD o] = some (.bl (noMore t o)) := by
  have key : ∀ (arcs : List Arc) (s5 s6 : Sl),
     (arcs.all (noMoreArc t) = false ∧ forD (gTupD (gCons (gN 5) (gCons (gN 6) gNil))) F_is_no_more_b1 (arcs.map arcD) [.fz (termD t), .fz (termD o), .fz (am t.1), .fz (.lst (t.2.map arcD)), .fz (.dct (arcKeys t.2) (arcVals t.2)), s5, s6] = some (.rt (.bl false))) ∨
     (arcs.all (noMoreArc t) = true ∧ ∃ ρ', forD (gTupD (gCons (gN 5) (gCons (gN 6) gNil))) F_is_no_more_b1 (arcs.map arcD) [.fz (termD t), .fz (termD o), .fz (am t.1), .fz (.lst (t.2.map arcD)), .fz (.dct (arcKeys t.2) (arcVals t.2)), s5, s6] = some (.nx ρ')) := by
    intro arcs
    induction arcs with
    | nil => intro s5 s6; exact .inr ⟨rfl, _, rfl⟩
    | cons q arcs ih =>
      intro s5 s6
      rcases inm_turn t o q s5 s6 t.1 rfl with ⟨h1, h2⟩ | ⟨h1, h2⟩
      · left; exact ⟨by simp [h1], by rw [List.map_cons, forD_rt h2]⟩
      · rw [List.map_cons, forD_nx h2]
        simp only [List.all_cons, h1, Bool.true_and]
        exact ih _ _
  have hd := hDct_arcs h
  have hm := at_most_eq t.1 o.1
  replace key := key o.2 .un .un
  clear h
  obtain ⟨l, arcs⟩ := t
  obtain ⟨l2, arcs2⟩ := o
  refine runF_rt rfl ?_
  rw [show startD 7 [termD (l, arcs), termD (l2, arcs2)] = [Sl.fz (termD (l, arcs)), .fz (termD (l2, arcs2)), .un, .un, .un, .un, .un] from rfl]
  unfold F_is_no_more
  simp only [termD, noMore] at key hm hd ⊢
  generalize atMost l l2 = b at hm ⊢
  cases b with
  | false => clear key; walk_at "evs"
  | true =>
    rcases key with ⟨h1, h2⟩ | ⟨h1, ρ', h2⟩
    · walk_at "evs"
    · walk_at "evs"
theorem atMost_trans {a b c : Amt} (h1 : atMost a b = true) (h2 : atMost b c = true) : atMost a c = true := by
  cases a <;> cases b <;> cases c <;> simp_all [atMost] <;> omega
theorem atMost_refl (a : Amt) : atMost a a = true := by cases a <;> simp [atMost]
/-- what lies below the value of a term -/
theorem below_fold (x : List Amt) (v : Amt) : ∀ (arcs : List Arc) (f : Amt), atMost v (arcs.foldl (tvStep x) f) = (atMost v f && arcs.all fun q => match x.getD q.1 none with | none => true | some u => atMost v (some (u + q.2)))
  | [], f => by simp
  | q :: arcs, f => by
    rw [List.foldl_cons, below_fold x v arcs]
    simp only [List.all_cons, tvStep]
    generalize x.getD q.1 none = y
    rw [← Bool.and_assoc]
    congr 1
    cases y with
    | none => simp
    | some u =>
      cases f with
      | none => simp [atMost]
      | some w =>
        cases v with
        | none => by_cases h : u + q.2 < w <;> simp [h, atMost]
        | some a =>
          by_cases h : u + q.2 < w
          · simp only [h, if_true, atMost]
            rw [Bool.eq_iff_iff]; simp; omega
          · simp only [h, if_false, atMost]
            rw [Bool.eq_iff_iff]; simp; omega
theorem lookArc_mem {j : Nat} {c : Int} : ∀ {arcs : List Arc}, lookArc arcs j = some c → (j, c) ∈ arcs
  | [], h => by simp [lookArc] at h
  | p :: r, h => by
    unfold lookArc at h
    split at h
    · rename_i e; cases h; subst e; exact List.mem_cons_self
    · exact List.mem_cons_of_mem _ (lookArc_mem h)
/-- no more: then below at every point -/
theorem noMore_le (t o : Term) (x : List Amt) (hx : ∀ u, some u ∈ x → 0 ≤ u) (h : noMore t o = true) : atMost (termValue t x) (termValue o x) = true := by
  have hv := atMost_refl (termValue t x)
  generalize hV : termValue t x = v at hv ⊢
  have hv : atMost v (termValue t x) = true := by rw [hV]; exact hv
  rw [termValue, below_fold] at hv
  simp only [Bool.and_eq_true, List.all_eq_true] at hv
  unfold noMore at h
  simp only [Bool.and_eq_true, List.all_eq_true] at h
  rw [termValue, below_fold]
  simp only [Bool.and_eq_true, List.all_eq_true]
  refine ⟨atMost_trans hv.1 h.1, fun q hq => ?_⟩
  have hn := h.2 q hq
  cases hy : x.getD q.1 none with
  | none => rfl
  | some u =>
    have hu : 0 ≤ u := by
      refine hx u ?_
      rw [List.getD_eq_getElem?_getD] at hy
      cases h7 : x[q.1]? with
      | none => rw [h7] at hy; cases hy
      | some z => rw [h7] at hy; have : z = some u := hy; subst this; exact List.mem_of_getElem? h7
    simp only
    unfold noMoreArc at hn
    simp only [Bool.or_eq_true] at hn
    rcases hn with hn | hn
    · cases hl : lookArc t.2 q.1 with
      | none => rw [hl] at hn; cases hn
      | some c =>
        rw [hl] at hn
        simp only [decide_eq_true_eq] at hn
        have h8 := hv.2 _ (lookArc_mem hl)
        simp only [hy] at h8
        exact atMost_trans h8 (by simp [atMost]; omega)
    · cases hl : t.1 with
      | none => rw [hl] at hn; cases hn
      | some l =>
        rw [hl] at hn
        simp only [decide_eq_true_eq] at hn
        have h8 := hv.1
        rw [hl] at h8
        exact atMost_trans h8 (by simp [atMost]; omega)
def absI (c : Int) : Int := if c < 0 then -c else c
def absSum (a b : List Arc) : Int := ((a ++ b).map fun p => absI p.2).sum
theorem absSum_ge (a b : List Arc) : 0 ≤ absSum a b ∧ ∀ q ∈ b, q.2 ≤ absSum a b := by
  have h : ∀ l : List Arc, 0 ≤ (l.map fun p => absI p.2).sum ∧ ∀ q ∈ l, q.2 ≤ (l.map fun p => absI p.2).sum := by
    intro l
    induction l with
    | nil => simp
    | cons p l ih =>
      simp only [List.map_cons, List.sum_cons]
      have hp : 0 ≤ absI p.2 ∧ p.2 ≤ absI p.2 := by unfold absI; split <;> omega
      refine ⟨by omega, fun q hq => ?_⟩
      rcases List.mem_cons.mp hq with rfl | hq
      · omega
      · have := ih.2 q hq; omega
  exact ⟨(h _).1, fun q hq => (h _).2 q (List.mem_append.mpr (.inr hq))⟩
def topOf (t o : Term) : Int := match t.1 with
  | some l => l
  | none => (match o.1 with
    | some k => 1000 + 2 * absSum t.2 o.2 + k
    | none => 1000 + 2 * absSum t.2 o.2)
def pointOf (top : Int) (arcs : List Arc) : List Amt := arcs.foldl (fun x p => x.set p.1 (some (top - p.2))) (List.replicate 12 (some 0))
def lNoMore (t o : Term) : Bool := if t.1.isNone && t.2.isEmpty then o.1.isNone && o.2.isEmpty else atMost (some (topOf t o)) (termValue o (pointOf (topOf t o) t.2))
theorem point_len (top : Int) : ∀ (arcs : List Arc) (x : List Amt), (arcs.foldl (fun x p => x.set p.1 (some (top - p.2))) x).length = x.length
  | [], _ => rfl
  | p :: r, x => by rw [List.foldl_cons, point_len top r]; simp
theorem point_get (top : Int) (j : Nat) : ∀ (arcs : List Arc) (x : List Amt), (arcs.map Prod.fst).Pairwise (· < ·) → j < x.length →
    (arcs.foldl (fun x p => x.set p.1 (some (top - p.2))) x).getD j none = match lookArc arcs j with | some c => some (top - c) | none => x.getD j none
  | [], _, _, _ => rfl
  | p :: r, x, h, hj => by
    rw [List.map_cons, List.pairwise_cons] at h
    rw [List.foldl_cons, point_get top j r _ h.2 (by simpa using hj)]
    by_cases e : p.1 = j
    · have : lookArc r j = none := by
        cases hl : lookArc r j with
        | none => rfl
        | some c =>
          have := h.1 j (List.mem_map.mpr ⟨_, lookArc_mem hl, rfl⟩)
          omega
      rw [this]
      simp only [lookArc, e, if_true]
      simp [hj]
    · simp only [lookArc, e, if_false]
      cases lookArc r j with
      | none => simp [e]
      | some c => rfl
theorem lNoMore_eq (t o : Term) (ht : GoodT t) (ho : GoodT o) : lNoMore t o = noMore t o := by
  have hS := absSum_ge t.2 o.2
  have hp : ∀ q ∈ o.2, (pointOf (topOf t o) t.2).getD q.1 none = match lookArc t.2 q.1 with | some c => some (topOf t o - c) | none => some 0 := fun q hq => by
    unfold pointOf
    have h4 := (ho.small q hq).1
    rw [point_get _ _ _ _ ht.cells (by simp; omega)]
    cases lookArc t.2 q.1 with
    | some c => rfl
    | none => simp only [List.getD_eq_getElem?_getD, List.getElem?_replicate, show q.1 < 12 from by omega, if_true]; rfl
  unfold lNoMore
  split
  · rename_i h
    simp only [Bool.and_eq_true, Option.isNone_iff_eq_none, List.isEmpty_iff] at h
    unfold noMore noMoreArc
    rw [h.1, h.2]
    cases o.1 with
    | none => cases o.2 <;> simp [atMost, lookArc]
    | some k => simp [atMost]
  · rename_i h
    rw [termValue, below_fold]
    unfold noMore
    have e1 : atMost (some (topOf t o)) o.1 = atMost t.1 o.1 := by
      unfold topOf
      cases t.1 with
      | some l => rfl
      | none => cases o.1 with
        | none => rfl
        | some k => simp [atMost]; omega
    rw [e1]
    cases hA : atMost t.1 o.1 with
    | false => simp
    | true =>
      simp only [Bool.true_and]
      rw [Bool.eq_iff_iff, List.all_eq_true, List.all_eq_true]
      refine forall_congr' fun q => forall_congr' fun hq => ?_
      rw [hp q hq]
      have hql := (ho.small q hq)
      have hqS := hS.2 q hq
      unfold noMoreArc topOf
      cases hl : lookArc t.2 q.1 with
      | some c =>
        have hc := ht.small _ (lookArc_mem hl)
        cases h1 : t.1 with
        | some l =>
          have := hc.2.2.2 l h1
          simp [atMost]; simp at this; omega
        | none =>
          cases ho1 : o.1 with
          | some k => rw [h1, ho1] at hA; cases hA
          | none => simp [atMost]; omega
      | none =>
        cases h1 : t.1 with
        | some l => simp [atMost]
        | none =>
          cases ho1 : o.1 with
          | some k => rw [h1, ho1] at hA; cases hA
          | none => simp [atMost]; omega
theorem am_none : am none = .non := rfl
theorem am_some {i : Int} : am (some i) = .int i := rfl
theorem lnm_turn (top : Int) (p : Arc) (x : List Amt) (d0 d1 d2 d3 : D) (s6 s7 s8 : Sl) (h : p.1 < x.length) :
    turnD (gTupD (gCons (gN 6) (gCons (gN 7) gNil))) F_l_no_more_b1 (arcD p) [.fz d0, .fz d1, .fz d2, .fz d3, .fz (.int top), .ow (.lst (x.map am)), s6, s7, s8]
      = some (.nx [.fz d0, .fz d1, .fz d2, .fz d3, .fz (.int top), .ow (.lst ((x.set p.1 (some (top - p.2))).map am)), .fz (.int p.1), .fz (.int p.2), s8]) := by
  have hix : ixD (List.map am x).length (p.1 : Int) = some p.1 := ixD_nat (by simpa using h)
  unfold F_l_no_more_b1 arcD
  rw [List.map_set]
  walk_at "evs"
  rfl
theorem lnm_loop (top : Int) (d0 d1 d2 d3 : D) (s8 : Sl) : ∀ (arcs : List Arc) (x : List Amt) (s6 s7 : Sl), (∀ p ∈ arcs, p.1 < x.length) →
   ∃ s6' s7', forD (gTupD (gCons (gN 6) (gCons (gN 7) gNil))) F_l_no_more_b1 (arcs.map arcD) [.fz d0, .fz d1, .fz d2, .fz d3, .fz (.int top), .ow (.lst (x.map am)), s6, s7, s8]
      = some (.nx [.fz d0, .fz d1, .fz d2, .fz d3, .fz (.int top), .ow (.lst ((arcs.foldl (fun x p => x.set p.1 (some (top - p.2))) x).map am)), s6', s7', s8])
  | [], x, s6, s7, _ => ⟨_, _, rfl⟩
  | p :: r, x, s6, s7, h => by
    rw [List.map_cons, forD_nx (lnm_turn top p x d0 d1 d2 d3 s6 s7 s8 (h p List.mem_cons_self))]
    exact lnm_loop top d0 d1 d2 d3 s8 r _ _ _ fun q hq => by simpa using h q (List.mem_cons_of_mem _ hq)
theorem l_no_more_eq (t o : Term) (ht : GoodT t) (ho : GoodT o) : fn_l_no_more [termD t, termD o] = some (.bl (lNoMore t o)) := by
  have hz : ∀ ρ : Env, ρ.length = 9 → noOw [8] ρ = true → eComp [8] (iRng1 (aCons (eC (.int 12)) aNil)) (gN 8) xYes F_l_no_more_e1 ρ = some (.lst ((List.replicate 12 (some 0 : Amt)).map am), ρ) := by
    intro ρ hl hn
    have := eComp_map (vs := [8]) (fi := iRng1 (aCons (eC (.int 12)) aNil)) (g := gN 8) (f := F_l_no_more_e1) (ρ := ρ) (ρ1 := ρ) (fun (k : Nat) => D.int (k : Int)) (fun _ => D.int 0) (xs := List.range 12) rfl (by simp) hn fun k _ => ?_
    · rw [this]; rfl
    · match ρ, hl with
      | [a0, a1, a2, a3, a4, a5, a6, a7, a8], _ => exact ⟨_, rfl, rfl, _, rfl, rfl⟩
  have ha : ∀ ρ : Env, ρ.length = 9 → noOw [6, 7] ρ = true → ∀ fi, fi ρ = some ((t.2 ++ o.2).map arcD, ρ) → eComp [6, 7] fi (gTupD (gCons (gN 6) (gCons (gN 7) gNil))) xYes F_l_no_more_e2 ρ = some (.lst (((t.2 ++ o.2).map fun p => absI p.2).map D.int), ρ) := by
    intro ρ hl hn fi hf
    have := ht.len
    have := ho.len
    rw [eComp_map (vs := [6, 7]) arcD (fun p => D.int (absI p.2)) (xs := t.2 ++ o.2) hf (by simp; omega) hn fun p _ => ?_]
    · rw [List.map_map]; rfl
    · match ρ, hl with
      | [a0, a1, a2, a3, a4, a5, a6, a7, a8], _ =>
        refine ⟨[a0, a1, a2, a3, a4, a5, .fz (.int p.1), .fz (.int p.2), a8], rfl, rfl, [a0, a1, a2, a3, a4, a5, .fz (.int p.1), .fz (.int p.2), a8], ?_, rfl⟩
        clear hf hn
        unfold F_l_no_more_e2
        walk_at "evs"
        rfl
  have hlen : (t.2.map arcD).length + (o.2.map arcD).length ≤ sizeLine := by
    have := ht.len
    have := ho.len
    simp only [List.length_map, sizeLine]; omega
  have hloop := lnm_loop (topOf t o) (termD t) (termD o) (am t.1) (.lst (t.2.map arcD)) .un t.2 (List.replicate 12 (some 0)) .un .un fun p hp => by
    have := (ht.small p hp).1
    simp; omega
  obtain ⟨s6, s7, hloop⟩ := hloop
  have hm := fun a b => lat_most_eq a b
  have hv : fn_l_term_value [termD o, .lst ((pointOf (topOf t o) t.2).map am)] = some (am (termValue o (pointOf (topOf t o) t.2))) := term_value_eq o _ fun p hp => by
    have := (ho.small p hp).1
    unfold pointOf
    rw [point_len]; simp; omega
  have hm := lat_most_eq (some (topOf t o)) (termValue o (pointOf (topOf t o) t.2))
  unfold lNoMore
  have hs : ((t.2 ++ o.2).map fun p => absI p.2).sum = absSum t.2 o.2 := rfl
  clear ht ho
  obtain ⟨l, arcs⟩ := t
  obtain ⟨l2, arcs2⟩ := o
  refine runF_rt rfl ?_
  rw [show startD 9 [termD (l, arcs), termD (l2, arcs2)] = [Sl.fz (termD (l, arcs)), .fz (termD (l2, arcs2)), .un, .un, .un, .un, .un, .un, .un] from rfl]
  unfold F_l_no_more
  simp only [termD, pointOf] at *
  cases l with
  | none =>
    cases arcs with
    | nil =>
      clear hz ha hlen hloop hv hm
      simp only [am_none] at *
      cases l2 with
      | none => cases arcs2 with
        | nil => simp only [am_none] at *; walk_at "evs"
        | cons p arcs2 =>
          have hne : ((((List.map arcD arcs2).length + 1 : Nat) : Int) == 0) = false := by
            rw [beq_eq_false_iff_ne]; omega
          simp only [am_none] at *
          walk_at "evs"
      | some k => simp only [am_some] at *; walk_at "evs"
    | cons p arcs =>
      have hne : (((List.map arcD (p :: arcs)).length : Int) == 0) = false := by
        rw [beq_eq_false_iff_ne]; simp; omega
      have hE : (p :: arcs).isEmpty = false := rfl
      generalize p :: arcs = A at *
      have ha2 := ha [.fz (D.tup [.non, .lst (A.map arcD)]), .fz (D.tup [am l2, .lst (arcs2.map arcD)]), .fz .non, .fz (.lst (A.map arcD)), .fz .non, .un, .un, .un, .un] rfl rfl (iSeq (eBin gAdd (eVar 3) (eBin gIdx (eVar 1) (eC (.int 1))))) (by
        have hg := Ev.gAdd_lst hlen
        clear ha hz hloop hv hm
        walk_at "evs"
        rw [List.map_append])
      have hz2 := fun top => hz [.fz (D.tup [.non, .lst (A.map arcD)]), .fz (D.tup [am l2, .lst (arcs2.map arcD)]), .fz .non, .fz (.lst (A.map arcD)), .fz (.int top), .un, .un, .un, .un] rfl rfl
      have hsum : hSum (.lst (((A ++ arcs2).map fun p => absI p.2).map D.int)) = some (.int (absSum A arcs2)) := Ev.hSum_ints
      clear hz ha hs hlen
      generalize ((A ++ arcs2).map fun p => absI p.2).map D.int = L at *
      cases l2 with
      | none =>
        simp only [topOf, am_some, am_none] at *
        walk_at "evs"
      | some k =>
        simp only [topOf, am_some, am_none] at *
        walk_at "evs"
  | some l =>
    have hz2 := hz [.fz (D.tup [.int l, .lst (arcs.map arcD)]), .fz (D.tup [am l2, .lst (arcs2.map arcD)]), .fz (.int l), .fz (.lst (arcs.map arcD)), .fz (.int l), .un, .un, .un, .un] rfl rfl
    clear hz ha
    simp only [topOf, am_some] at *
    walk_at "evs"
theorem seq_nx {F G : Sx} {ρ ρ' : Env} (h : F ρ = some (.nx ρ')) : sSeq F G ρ = G ρ' := by
  rw [Ev.sSeq_ap, h]; rfl
/-! ### a term near another -/
theorem near_eq (t : Term) (ht : GoodT t) (hs : ∀ p ∈ t.2, -7 ≤ p.2 ∧ p.2 ≤ 7) (vs : List Int) (hv : ∀ v ∈ vs, 0 ≤ v) (h5 : vs.length = 5) : ∃ u, fn_l_near [termD t, .lst (vs.map D.int)] = some (termD u) ∧ GoodT u := by
  match vs, h5 with
  | [r0, r1, r2, r3, r4], _ =>
  have hr0 : 0 ≤ r0 := hv _ (by simp)
  have hr4 : 0 ≤ r4 := hv _ (by simp)
  have hx0 : gIdx (.lst ([r0, r1, r2, r3, r4].map D.int)) (.int 0) = some (.int r0) := rfl
  have hx1 : gIdx (.lst ([r0, r1, r2, r3, r4].map D.int)) (.int 1) = some (.int r1) := rfl
  have hx2 : gIdx (.lst ([r0, r1, r2, r3, r4].map D.int)) (.int 2) = some (.int r2) := rfl
  have hx3 : gIdx (.lst ([r0, r1, r2, r3, r4].map D.int)) (.int 3) = some (.int r3) := rfl
  have hx4 : gIdx (.lst ([r0, r1, r2, r3, r4].map D.int)) (.int 4) = some (.int r4) := rfl
  generalize [r0, r1, r2, r3, r4].map D.int = V at hx0 hx1 hx2 hx3 hx4 ⊢
  clear hv
  obtain ⟨l, arcs⟩ := t
  -- the arcs after the change
  have hA : ∃ arcs' : List Arc, ∃ s5 s6 s7, (∀ (F : Sx), sSeq (sIf (xB (eBin gGt (eCall (g1 hLen) (aCons (eVar 4) aNil)) (eC (.int 0)))) (sSeq (sSet 5 (eBin gMod (eCall (g1 hInt) (aCons (eBin gIdx (eVar 1) (eC (.int 0))) aNil)) (eCall (g1 hLen) (aCons (eVar 4) aNil))))
    (sSeq (sAsg (gTupD (gCons (gN 6) (gCons (gN 7) gNil))) (eBin gIdx (eVar 4) (eVar 5)))
    (sSet 4 (eBin gAdd (eBin gAdd (eSl (eVar 4) oNone (oSome (eVar 5))) (eBin gIdx (eLst (aCons (eLst (aCons (eTup (aCons (eVar 6) (aCons (eBin gSub (eBin gAdd (eVar 7) (eBin gMod (eCall (g1 hInt) (aCons (eBin gIdx (eVar 1) (eC (.int 1))) aNil)) (eC (.int 3)))) (eC (.int 1))) aNil))) aNil)) (aCons (eLst aNil) aNil))) (eCall (g1 hInt) (aCons (eBin gEq (eBin gMod (eCall (g1 hInt) (aCons (eBin gIdx (eVar 1) (eC (.int 2))) aNil)) (eC (.int 3))) (eC (.int 0))) aNil)))) (eSl (eVar 4) (oSome (eBin gAdd (eVar 5) (eC (.int 1)))) oNone))))) sNil) F [.fz (termD (l, arcs)), .fz (.lst V), .fz (am l), .fz (.lst (arcs.map arcD)), .fz (.lst (arcs.map arcD)), .un, .un, .un]
      = F [.fz (termD (l, arcs)), .fz (.lst V), .fz (am l), .fz (.lst (arcs.map arcD)), .fz (.lst (arcs'.map arcD)), s5, s6, s7]) ∧ noOw [0, 1, 2] [s5, s6, s7] = true ∧ (arcs'.map Prod.fst).Sublist (arcs.map Prod.fst) ∧ ∀ p ∈ arcs', p.1 < 4 ∧ -8 ≤ p.2 ∧ p.2 ≤ 8 := by
    rcases Nat.eq_zero_or_pos arcs.length with h0 | h0
    · have : arcs = [] := List.eq_nil_of_length_eq_zero h0
      subst this
      refine ⟨[], .un, .un, .un, fun F => ?_, rfl, List.Sublist.refl _, by simp⟩
      walk_at "evs"
    · have h1 : decide ((0 : Int) < ((List.map arcD arcs).length : Int)) = true := by simp; omega
      have h2 : (0 : Int) < ((List.map arcD arcs).length : Int) := by simp; omega
      obtain ⟨a, ha⟩ : ∃ a : Nat, r0 % ((List.map arcD arcs).length : Int) = a := ⟨(r0 % ((List.map arcD arcs).length : Int)).toNat, by have := Int.emod_nonneg r0 (by omega : ((List.map arcD arcs).length : Int) ≠ 0); omega⟩
      have hal : a < arcs.length := by have := Int.emod_lt_of_pos r0 h2; simp at this; simp at ha; omega
      have hg : gMod (.int r0) (.int ((List.map arcD arcs).length : Int)) = some (.int (a : Int)) := by rw [Ev.gMod_int h2, ha]
      have hx : gIdx (.lst (arcs.map arcD)) (.int (a : Int)) = some (arcD (arcs.getD a default)) := gIdx_nat hal
      have hc1 : cutD (arcs.map arcD) none (some (a : Int)) = (arcs.take a).map arcD := cutD_map0 (by omega)
      have hc2 : cutD (arcs.map arcD) (some ((a : Int) + 1)) none = (arcs.drop (a + 1)).map arcD := cutD_mapE (a := a + 1) (by omega)
      have hsplit : arcs = arcs.take a ++ arcs.getD a default :: arcs.drop (a + 1) := by
        rw [List.getD_eq_getElem?_getD, List.getElem?_eq_getElem hal]
        simp
      have hpm : arcs.getD a default ∈ arcs := by rw [List.getD_eq_getElem?_getD, List.getElem?_eq_getElem hal]; exact List.getElem_mem _
      have hp := hs _ hpm
      have hp4 := (ht.small _ hpm).1
      generalize arcs.getD a default = p at hx hsplit hp hp4
      have hl4 := ht.len
      have hG : ∀ mid : List Arc, mid.length ≤ 1 → gAdd (.lst ((arcs.take a).map arcD)) (.lst (mid.map arcD)) = some (.lst ((arcs.take a ++ mid).map arcD)) ∧ gAdd (.lst ((arcs.take a ++ mid).map arcD)) (.lst ((arcs.drop (a + 1)).map arcD)) = some (.lst ((arcs.take a ++ mid ++ arcs.drop (a + 1)).map arcD)) := fun mid hm => by
        simp only at hl4
        constructor
        · rw [Ev.gAdd_lst (by simp [sizeLine]; omega), List.map_append]
        · rw [Ev.gAdd_lst (by simp [sizeLine]; omega), List.map_append (l₁ := arcs.take a ++ mid)]
      have hts : ∀ q ∈ arcs.take a, q.1 < 4 ∧ -8 ≤ q.2 ∧ q.2 ≤ 8 := fun q hq => by
        have := hs _ (List.mem_of_mem_take hq); have := (ht.small _ (List.mem_of_mem_take hq)).1; omega
      have hds : ∀ q ∈ arcs.drop (a + 1), q.1 < 4 ∧ -8 ≤ q.2 ∧ q.2 ≤ 8 := fun q hq => by
        have := hs _ (List.mem_of_mem_drop hq); have := (ht.small _ (List.mem_of_mem_drop hq)).1; omega
      rw [show arcD p = .tup [.int (p.1 : Int), .int p.2] from rfl] at hx
      by_cases hm : r2 % 3 == 0
      · obtain ⟨hg1, hg2⟩ := hG [] (by simp)
        refine ⟨arcs.take a ++ [] ++ arcs.drop (a + 1), .fz (.int a), .fz (.int p.1), .fz (.int p.2), fun F => ?_, rfl, ?_, ?_⟩
        · simp only [List.map_nil] at hg1
          clear hG hsplit
          walk_at "evs"
        · conv => rhs; rw [hsplit]
          simp only [List.append_nil, List.map_append, List.map_cons]
          exact (List.Sublist.refl _).append (List.sublist_cons_self _ _)
        · intro q hq
          rw [List.append_nil] at hq
          rcases List.mem_append.mp hq with hq | hq
          · exact hts q hq
          · exact hds q hq
      · obtain ⟨hg1, hg2⟩ := hG [(p.1, p.2 + r1 % 3 - 1)] (by simp)
        refine ⟨arcs.take a ++ [(p.1, p.2 + r1 % 3 - 1)] ++ arcs.drop (a + 1), .fz (.int a), .fz (.int p.1), .fz (.int p.2), fun F => ?_, rfl, ?_, ?_⟩
        · simp only [List.map_cons, List.map_nil] at hg1
          rw [show arcD (p.1, p.2 + r1 % 3 - 1) = .tup [.int (p.1 : Int), .int (p.2 + r1 % 3 - 1)] from rfl] at hg1
          clear hG hsplit
          walk_at "evs"
        · conv => rhs; rw [hsplit]
          simp only [List.map_append, List.map_cons, List.map_nil, List.append_assoc, List.singleton_append]
          exact List.Sublist.refl _
        · intro q hq
          rcases List.mem_append.mp hq with hq | hq
          · rcases List.mem_append.mp hq with hq | hq
            · exact hts q hq
            · rw [List.mem_singleton.mp hq]; simp only; omega
          · exact hds q hq
  obtain ⟨arcs', s5, s6, s7, hA, hno, hsub, hsm⟩ := hA
  -- the limit
  obtain ⟨l', hl', hL⟩ : ∃ l' : Amt, (∀ k, l' = some k → 1 ≤ k ∧ k ≤ 1000) ∧ (if r3 % 3 == 0 then gIdx (.lst [.non, .int 1, .int 5, .int 12]) (.int (r4 % 4)) else some (am l)) = some (am l') := by
    by_cases hm : r3 % 3 == 0
    · obtain ⟨a, ha, he⟩ := gIdx_ams (as := [none, some 1, some 5, some 12]) (i := r4 % 4) (by omega) (by simp; omega)
      refine ⟨a, ?_, by rw [if_pos hm]; exact he⟩
      intro k hk
      subst hk
      simp at ha
      omega
    · exact ⟨l, ht.lim, by rw [if_neg hm]⟩
  have hlen' : arcs'.length ≤ 4 := by have := hsub.length_le; have := ht.len; simp at *; omega
  have hC : ∀ s5 s6 s7, noOw [0, 1, 2] [s5, s6, s7] = true → eComp [6, 7] (iSeq (eVar 4)) (gTupD (gCons (gN 6) (gCons (gN 7) gNil))) F_l_near_t1 F_l_near_e1 [.fz (termD (l, arcs)), .fz (.lst V), .fz (am l'), .fz (.lst (arcs.map arcD)), .fz (.lst (arcs'.map arcD)), s5, s6, s7]
      = some (.lst ((arcs'.filter (undr l')).map arcD), [.fz (termD (l, arcs)), .fz (.lst V), .fz (am l'), .fz (.lst (arcs.map arcD)), .fz (.lst (arcs'.map arcD)), s5, s6, s7]) := by
    intro s5 s6 s7 hno
    refine eComp_eq arcD (undr l') arcD (xs := arcs') rfl (by omega) ?_ fun p hq => ?_
    · cases s6 <;> cases s7 <;> cases s5 <;> simp [noOw] at hno ⊢
    · exact ⟨[.fz (termD (l, arcs)), .fz (.lst V), .fz (am l'), .fz (.lst (arcs.map arcD)), .fz (.lst (arcs'.map arcD)), s5, .fz (.int p.1), .fz (.int p.2)], [.fz (termD (l, arcs)), .fz (.lst V), .fz (am l'), .fz (.lst (arcs.map arcD)), .fz (.lst (arcs'.map arcD)), s5, .fz (.int p.1), .fz (.int p.2)], rfl, undr_eq rfl rfl, rfl, fun _ => ⟨[.fz (termD (l, arcs)), .fz (.lst V), .fz (am l'), .fz (.lst (arcs.map arcD)), .fz (.lst (arcs'.map arcD)), s5, .fz (.int p.1), .fz (.int p.2)], rfl, rfl⟩⟩
  have hC := hC s5 s6 s7 hno
  refine ⟨(l', arcs'.filter (undr l')), runF_rt rfl ?_, ?_⟩
  · rw [show startD 8 [termD (l, arcs), .lst V] = [Sl.fz (termD (l, arcs)), .fz (.lst V), .un, .un, .un, .un, .un, .un] from rfl]
    unfold F_l_near
    simp only [termD] at hA hC ⊢
    clear hs ht hl' hsub hsm hlen' hno
    rw [seq_nx (ρ' := [Sl.fz (.tup [am l, .lst (arcs.map arcD)]), .fz (.lst V), .fz (am l), .fz (.lst (arcs.map arcD)), .un, .un, .un, .un]) (by walk_at "ev"),
      seq_nx (ρ' := [Sl.fz (.tup [am l, .lst (arcs.map arcD)]), .fz (.lst V), .fz (am l), .fz (.lst (arcs.map arcD)), .fz (.lst (arcs.map arcD)), .un, .un, .un]) (by walk_at "ev"), hA]
    clear hA
    by_cases hm : r3 % 3 == 0
    · simp only [hm, if_true] at hL
      walk_at "evs"
    · simp only [hm, Bool.false_eq_true, if_false, Option.some.injEq] at hL
      have e := am_inj hL
      clear hL
      subst e
      walk_at "evs"
  · refine ⟨hl', Nat.le_trans (List.length_filter_le _ _) hlen', ?_, ?_⟩
    · exact (ht.cells.sublist hsub).sublist ((List.filter_sublist (l := arcs')).map _)
    · intro p hp
      obtain ⟨hp1, hp2⟩ := List.mem_filter.mp hp
      have := hsm p hp1
      refine ⟨by omega, by omega, by omega, fun l hl => ?_⟩
      simp only at hl
      rw [hl] at hp2
      simpa [undr] using hp2
def lawX (vs : List Int) (k : Nat) : List Amt := (List.range 4).map fun c => if vs.getD (20 + 4 * k + c) 0 % 11 == 10 then none else some (vs.getD (20 + 4 * k + c) 0 % 16)
theorem lawX_ge (vs : List Int) (k : Nat) : ∀ u, some u ∈ lawX vs k → 0 ≤ u := by
  intro u h
  unfold lawX at h
  obtain ⟨c, _, hc⟩ := List.mem_map.mp h
  split at hc
  · cases hc
  · cases hc; exact Int.emod_nonneg _ (by omega)
theorem k64_x (vs : List Int) (h80 : vs.length = 80) (k : Nat) (hk : k < 8) (s0 : D) (s2 s3 s4 s5 s6 s7 : D) (s9 : Sl) :
    eComp [10] (iRng1 (aCons (eC (.int 4)) aNil)) (gN 10) xYes F_law_k64_e1 [.fz s0, .fz (.lst (vs.map D.int)), .fz s2, .fz s3, .fz s4, .fz s5, .fz s6, .fz s7, .fz (.int (k : Int)), s9, .un]
      = some (.lst ((lawX vs k).map am), [.fz s0, .fz (.lst (vs.map D.int)), .fz s2, .fz s3, .fz s4, .fz s5, .fz s6, .fz s7, .fz (.int (k : Int)), s9, .un]) := by
  rw [eComp_map (vs := [10]) (fun (c : Nat) => D.int (c : Int)) (fun c => am (if vs.getD (20 + 4 * k + c) 0 % 11 == 10 then none else some (vs.getD (20 + 4 * k + c) 0 % 16))) (xs := List.range 4) (ρ1 := [.fz s0, .fz (.lst (vs.map D.int)), .fz s2, .fz s3, .fz s4, .fz s5, .fz s6, .fz s7, .fz (.int (k : Int)), s9, .un]) ?_ (by simp) rfl fun c hc => ?_]
  · unfold lawX; rw [List.map_map]; rfl
  · show some (rangeD 0 4, _) = _
    rw [rangeD_nat]
  · have hc4 := List.mem_range.mp hc
    refine ⟨[.fz s0, .fz (.lst (vs.map D.int)), .fz s2, .fz s3, .fz s4, .fz s5, .fz s6, .fz s7, .fz (.int (k : Int)), s9, .fz (.int (c : Int))], rfl, rfl, [.fz s0, .fz (.lst (vs.map D.int)), .fz s2, .fz s3, .fz s4, .fz s5, .fz s6, .fz s7, .fz (.int (k : Int)), s9, .fz (.int (c : Int))], ?_, rfl⟩
    have hx : gIdx (.lst (vs.map D.int)) (.int (20 + 4 * (k : Int) + (c : Int))) = some (.int (vs.getD (20 + 4 * k + c) 0)) := by
      have := gIdx_ints (ns := vs) (i := ((20 + 4 * k + c : Nat) : Int)) (by omega) (by omega)
      rw [Int.toNat_natCast] at this
      rw [← this]; congr
    generalize vs.getD (20 + 4 * k + c) 0 = r at hx ⊢
    unfold F_law_k64_e1
    clear hc
    by_cases hm : r % 11 == 10
    · walk_at "evs"
      rfl
    · walk_at "evs"
      rfl
def k64St (s0 : D) (vs : List Int) (t1 t2 : Term) (s4 : D) (ρ : Env) : Prop := ∃ s5 s6 s7 s8 s9 : Sl, ρ = [.fz s0, .fz (.lst (vs.map D.int)), .fz (termD t1), .fz (termD t2), .fz s4, s5, s6, s7, s8, s9, .un]
theorem k64_inner (vs : List Int) (h80 : vs.length = 80) (k : Nat) (hk : k < 8) (s0 s2 s3 s4 : D) (t o : Term) (ht : GoodT t) (ho : GoodT o) (s8 s9 : Sl) :
    turnD (gN 8) F_law_k64_b1 (.int (k : Int)) [.fz s0, .fz (.lst (vs.map D.int)), .fz s2, .fz s3, .fz s4, .fz (termD t), .fz (termD o), .fz (.bl (noMore t o)), s8, s9, .un]
     = some (.nx [.fz s0, .fz (.lst (vs.map D.int)), .fz s2, .fz s3, .fz s4, .fz (termD t), .fz (termD o), .fz (.bl (noMore t o)), .fz (.int (k : Int)), .fz (.lst ((lawX vs k).map am)), .un]) := by
  have hx := k64_x vs h80 k hk s0 s2 s3 s4 (termD t) (termD o) (.bl (noMore t o)) s9
  have hl : (lawX vs k).length = 4 := by simp [lawX]
  have h1 := term_value_eq t (lawX vs k) fun p hp => by rw [hl]; exact (ht.small p hp).1
  have h2 := term_value_eq o (lawX vs k) fun p hp => by rw [hl]; exact (ho.small p hp).1
  have h3 := lat_most_eq (termValue t (lawX vs k)) (termValue o (lawX vs k))
  have h4 := noMore_le t o (lawX vs k) (lawX_ge vs k)
  unfold F_law_k64_b1
  clear ht ho hk h80
  generalize noMore t o = b at *
  cases b with
  | false => walk_at "evs"
  | true =>
    rw [h4 rfl] at h3
    clear h4
    walk_at "evs"
theorem k64_turn (vs : List Int) (h80 : vs.length = 80) (s0 s4 : D) (t1 t2 t o : Term) (ht : GoodT t) (ho : GoodT o) (ρ : Env) (hρ : k64St s0 vs t1 t2 s4 ρ) :
    ∃ ρ', turnD (gTupD (gCons (gN 5) (gCons (gN 6) gNil))) F_law_k64_b2 (.tup [termD t, termD o]) ρ = some (.nx ρ') ∧ k64St s0 vs t1 t2 s4 ρ' := by
  obtain ⟨s5, s6, s7, s8, s9, rfl⟩ := hρ
  have h1 := is_no_more_eq t o ht.cells
  have h2 := l_no_more_eq t o ht ho
  rw [lNoMore_eq t o ht ho] at h2
  obtain ⟨ρ', h3, s8', s9', rfl⟩ := forD_range (g := gN 8) (F := F_law_k64_b1) (fun _ ρ => ∃ s8 s9, ρ = [.fz s0, .fz (.lst (vs.map D.int)), .fz (termD t1), .fz (termD t2), .fz s4, .fz (termD t), .fz (termD o), .fz (.bl (noMore t o)), s8, s9, .un]) 8
    [.fz s0, .fz (.lst (vs.map D.int)), .fz (termD t1), .fz (termD t2), .fz s4, .fz (termD t), .fz (termD o), .fz (.bl (noMore t o)), s8, s9, .un] ⟨_, _, rfl⟩
    fun k ρ hk ⟨s8, s9, e⟩ => by
      subst e
      exact ⟨_, k64_inner vs h80 k hk s0 _ _ s4 t o ht ho s8 s9, _, _, rfl⟩
  unfold F_law_k64_b2
  clear ht ho h80
  refine ⟨_, ?_, ⟨.fz (termD t), .fz (termD o), .fz (.bl (noMore t o)), s8', s9', rfl⟩⟩
  walk_at "evs"
theorem goodT_shw (t : Term) (h : GoodT t) : Shw 39 100 (termD t) := by
  unfold termD
  have hl : Shw 38 20 (.lst (t.2.map arcD)) := by
    refine (Shw.lstMap (n := 37) (w := 2) (k := 4) h.len fun p hp => ?_).mono (by omega)
    have := h.small p hp
    exact Shw.pair (n := 36) (w := 0) (.int (by omega)) (.int (by omega))
  exact (Shw.pair (.am fun i hi => by have := h.lim i hi; omega) hl).mono (by omega)
theorem noMore_refl (t : Term) (h : (t.2.map Prod.fst).Pairwise (· < ·)) : noMore t t = true := by
  unfold noMore
  simp only [Bool.and_eq_true, List.all_eq_true]
  refine ⟨atMost_refl _, fun q hq => ?_⟩
  unfold noMoreArc
  have : lookArc t.2 q.1 = some q.2 := by
    generalize t.2 = arcs at h hq
    induction arcs with
    | nil => cases hq
    | cons p r ih =>
      rw [List.map_cons, List.pairwise_cons] at h
      rcases List.mem_cons.mp hq with rfl | hq
      · simp [lookArc]
      · have := h.1 q.1 (List.mem_map_of_mem hq)
        unfold lookArc
        rw [if_neg (by omega)]
        exact ih h.2 hq
  rw [this]
  simp
theorem math_law_k64 (ns : List Int) (h : ns.length ≤ 63) : F_law_k64 (startD 11 [.scr ns]) = some (.rt (.bl true)) := by
  obtain ⟨vs, hd, h80, hv⟩ := draws_eq ns h 80 (by omega)
  have hv0 : ∀ v ∈ vs, 0 ≤ v := fun v hm => (hv v hm).1
  have hc1 : cutD (vs.map D.int) none (some 5) = (vs.take 5).map D.int := cutD_map0 (b := 5) (by omega)
  have hc2 : cutD (vs.map D.int) (some 5) (some 10) = ((vs.drop 5).take 5).map D.int := by
    have := cutD_map (enc := D.int) (xs := vs) (a := 5) (b := 10) (by omega)
    rw [show min 5 vs.length = 5 from by omega] at this; exact this
  have hc3 : cutD (vs.map D.int) (some 11) (some 16) = ((vs.drop 11).take 5).map D.int := by
    have := cutD_map (enc := D.int) (xs := vs) (a := 11) (b := 16) (by omega)
    rw [show min 11 vs.length = 11 from by omega] at this; exact this
  obtain ⟨t1, h1, q1, b1⟩ := term_eq (vs.take 5) (fun v hm => hv0 v (List.mem_of_mem_take hm)) (by simp; omega)
  obtain ⟨t2, h2, q2, b2⟩ := term_eq ((vs.drop 5).take 5) (fun v hm => hv0 v (List.mem_of_mem_drop (List.mem_of_mem_take hm))) (by simp; omega)
  obtain ⟨t3, h3, q3⟩ := near_eq t1 q1 b1 ((vs.drop 11).take 5) (fun v hm => hv0 v (List.mem_of_mem_drop (List.mem_of_mem_take hm))) (by simp; omega)
  have hx := gIdx_ints (ns := vs) (i := 10) (by omega) (by omega)
  have hd' : fn_l_draws [.scr ns, .int 80] = some (.lst (vs.map D.int)) := hd
  -- the second term, whichever
  obtain ⟨t, g, ht⟩ : ∃ t, GoodT t ∧ ∀ F, sSeq (sIf (xB (eBin gEq (eBin gMod (eCall (g1 hInt) (aCons (eBin gIdx (eVar 1) (eC (.int 10))) aNil)) (eC (.int 2))) (eC (.int 0)))) (sSet 3 (eCall fn_l_near (aCons (eVar 2) (aCons (eSl (eVar 1) (oSome (eC (.int 11))) (oSome (eC (.int 16)))) aNil)))) sNil) F
      [.fz (.scr ns), .fz (.lst (vs.map D.int)), .fz (termD t1), .fz (termD t2), .un, .un, .un, .un, .un, .un, .un] = F [.fz (.scr ns), .fz (.lst (vs.map D.int)), .fz (termD t1), .fz (termD t), .un, .un, .un, .un, .un, .un, .un] := by
    by_cases hm : vs.getD 10 0 % 2 == 0
    · refine ⟨t3, q3, fun F => ?_⟩
      clear hd hv0 hv b1 b2 q1 q2 q3
      have hx : gIdx (.lst (vs.map D.int)) (.int 10) = some (.int (vs.getD 10 0)) := hx
      walk_at "evs"
    · refine ⟨t2, q2, fun F => ?_⟩
      clear hd hv0 hv b1 b2 q1 q2 q3
      have hx : gIdx (.lst (vs.map D.int)) (.int 10) = some (.int (vs.getD 10 0)) := hx
      walk_at "evs"
  have hS : Shw 40 1000 (.tup [termD t1, termD t]) := (Shw.pair (goodT_shw t1 q1) (goodT_shw t g)).mono (by omega)
  have hR := hRepr_tup hS (by omega)
  have hE := gEq_str hS.strOk
  have hN := is_no_more_eq t1 t1 q1.cells
  rw [noMore_refl t1 q1.cells] at hN
  generalize (toPy (.tup [termD t1, termD t])).shown = W at hR hE
  obtain ⟨ρ1, l1, e1⟩ := k64_turn vs h80 (.scr ns) (.str W) t1 t t1 t q1 g [.fz (.scr ns), .fz (.lst (vs.map D.int)), .fz (termD t1), .fz (termD t), .fz (.str W), .un, .un, .un, .un, .un, .un] ⟨_, _, _, _, _, rfl⟩
  obtain ⟨ρ2, l2, e2⟩ := k64_turn vs h80 (.scr ns) (.str W) t1 t t t1 g q1 ρ1 e1
  obtain ⟨ρ3, l3, e3⟩ := k64_turn vs h80 (.scr ns) (.str W) t1 t t1 t1 q1 q1 ρ2 e2
  obtain ⟨s5, s6, s7, s8, s9, rfl⟩ := e3
  have hloop : forD (gTupD (gCons (gN 5) (gCons (gN 6) gNil))) F_law_k64_b2 [.tup [termD t1, termD t], .tup [termD t, termD t1], .tup [termD t1, termD t1]] [.fz (.scr ns), .fz (.lst (vs.map D.int)), .fz (termD t1), .fz (termD t), .fz (.str W), .un, .un, .un, .un, .un, .un]
     = some (.nx [.fz (.scr ns), .fz (.lst (vs.map D.int)), .fz (termD t1), .fz (termD t), .fz (.str W), s5, s6, s7, s8, s9, .un]) := by
    rw [forD_nx l1, forD_nx l2, forD_nx l3]; rfl
  rw [show startD 11 [.scr ns] = [Sl.fz (.scr ns), .un, .un, .un, .un, .un, .un, .un, .un, .un, .un] from rfl]
  unfold F_law_k64
  clear hd hv hv0 l1 l2 l3 e1 e2 hS g q1 q2 q3 b1 b2 h3 hx hc3 h80 h
  rw [seq_nx (ρ' := [.fz (.scr ns), .fz (.lst (vs.map D.int)), .un, .un, .un, .un, .un, .un, .un, .un, .un]) (by clear ht; walk_at "evs"),
    seq_nx (ρ' := [.fz (.scr ns), .fz (.lst (vs.map D.int)), .fz (termD t1), .fz (termD t2), .un, .un, .un, .un, .un, .un, .un]) (by clear ht; walk_at "evs"), ht]
  clear ht
  walk_at "evs"

end DL
namespace CL
open PySem PySem.Spec PyProof.Rows L2 DL
def topS (i : Nat) : Stmt := PySem.Challenge.pw_circlesettle_k64_terms_that_are_no_more.main.body.getD i (.Pass ⟨0, 0, 0, 0⟩)
abbrev FnP (K : PySem.W.Frag) (x : Str) (st : Stmt) (f : Addr) (fd : FuncData) : Prop := FunD K x x (defArgs st) (defBody st) (defScope st) [] [] f fd
abbrev st_at_most : Stmt := topS 1
abbrev N_at_most : List Str := ["a", "b"]
theorem sc_at_most : FnScope N_at_most ["a", "b"] (defScope st_at_most) := ⟨rfl, rfl, rfl, by decide +kernel, rfl, by decide +kernel, by decide +kernel⟩
theorem ok_at_most {P : Program} {w : World} {K : PySem.W.Frag} {mg : Str → Option Value} {base : Heap} {fa : Addr} {fd : FuncData} (D : FnP K "at_most" st_at_most fa fd) (g : mg "at_most" = some (.ref fa))
     : Fnd P w K mg base 1 "at_most" ["a", "b"] (spV false fn_at_most) := by
  refine ⟨fa, fd, g, D.kp, D.bindsN fun _ _ _ _ _ _ us hl => match us, hl with | [_, _], _ => rfl, ?_⟩
  refine fn_val (N := N_at_most) D sc_at_most fun cdv A outer s H E hr => ?_
  have nd := sc_at_most.nd
  have hu1 := hu_of hr
  have hu64 := hr.units
  have hu65 := hu65_of hr
  show SB _ _ (defBody st_at_most) F_at_most
  unfold F_at_most
  exact (s_cons (s_if (q_cmp op_isD ok_is (x_var 1) x_non (nomark _)) (s_one (s_ret x_bl)) s_nil)
    (s_one (s_ret (x_and (x_cmp op_notN ok_isNot (x_var 0) x_non (nomark _)) (x_one (x_cmp op_le ok_le (x_var 0) (x_var 1) (nomark _)))))))
abbrev st_is_no_more : Stmt := topS 3
abbrev N_is_no_more : List Str := ["term", "other", "limit", "arcs", "own", "cell", "number"]
theorem sc_is_no_more : FnScope N_is_no_more ["term", "other"] (defScope st_is_no_more) := ⟨rfl, rfl, rfl, by decide +kernel, rfl, by decide +kernel, by decide +kernel⟩
theorem ok_is_no_more {P : Program} {w : World} {K : PySem.W.Frag} {mg : Str → Option Value} {base : Heap} {fa : Addr} {fd : FuncData} (D : FnP K "is_no_more" st_is_no_more fa fd) (g : mg "is_no_more" = some (.ref fa))
    (m_dict : mg "dict" = none) (C_at_most : Fnd P w K mg base 1 "at_most" ["a", "b"] (spV false fn_at_most)) : Fnd P w K mg base 2 "is_no_more" ["term", "other"] (spV false fn_is_no_more) := by
  refine ⟨fa, fd, g, D.kp, D.bindsN fun _ _ _ _ _ _ us hl => match us, hl with | [_, _], _ => rfl, ?_⟩
  refine fn_val (N := N_is_no_more) D sc_is_no_more fun cdv A outer s H E hr => ?_
  have nd := sc_is_no_more.nd
  have hu1 := hu_of hr
  have hu64 := hr.units
  have hu65 := hu65_of hr
  show SB _ _ (defBody st_is_no_more) F_is_no_more
  unfold F_is_no_more
  exact (s_cons (s_asg (x_var 0) (g_tup rfl (g_cons (g_name 2 nd) (g_cons (g_name 3 nd) g_nil)) (gl_cons (gl_cons gl_nil))))
    (s_cons (s_if (q_not (q_truth (x_call C_at_most hr (by rfl) (a_cons (x_var 2) (a_cons (x_idx hu1 (x_var 1) x_int (fun _ _ => rfl)) a_nil))))) (s_one (s_ret x_bl)) s_nil)
    (s_cons (s_set 4 nd (n_callTy (call_dictP rfl) ok_dct (by rfl) m_dict (by decide +kernel) (a_cons (x_var 3) a_nil)).px)
    (s_cons (s_for .never rfl (i_list (x_idx hu1 (x_var 1) x_int (fun _ _ => rfl))) (g_tup rfl (g_cons (g_name 5 nd) (g_cons (g_name 6 nd) g_nil)) (gl_cons (gl_cons gl_nil))) (s_one (s_if (q_and (q_not (q_and (q_cmp (op_mem hu65) ok_inL (x_var 5) (x_var 4) (by with_unfolding_all rfl)) (q_and1 (q_cmp op_le ok_le (x_idx hu1 (x_var 4) (x_var 5) (fun _ _ => rfl)) (x_var 6) (nomark _)))).pt) (q_and1 (q_not (q_and (q_cmp op_notN ok_isNot (x_var 2) x_non (nomark _)) (q_and1 (q_cmp op_le ok_le (x_var 2) (x_var 6) (nomark _)))).pt))).pt (s_one (s_ret x_bl)) s_nil)))
    (s_one (s_ret x_bl))))))
abbrev st__law_draws : Stmt := topS 5
abbrev N__law_draws : List Str := ["_law_script", "_law_count", "_law_rests", "_law_draws_here", "_law_k", "_law_value", "_law_at", "_law_mixed", "_law_cell"]
theorem sc__law_draws : FnScope N__law_draws ["_law_script", "_law_count"] (defScope st__law_draws) := ⟨rfl, rfl, rfl, by decide +kernel, rfl, by decide +kernel, by decide +kernel⟩
theorem ok__law_draws {P : Program} {w : World} {K : PySem.W.Frag} {mg : Str → Option Value} {base : Heap} {fa : Addr} {fd : FuncData} (D : FnP K "_law_draws" st__law_draws fa fd) (g : mg "_law_draws" = some (.ref fa))
    (m_range : mg "range" = none) (m_len : mg "len" = none) (m_int : mg "int" = none) : Fnd P w K mg base 1 "_law_draws" ["_law_script", "_law_count"] (spV true fn_l_draws) := by
  refine ⟨fa, fd, g, D.kp, D.bindsN fun _ _ _ _ _ _ us hl => match us, hl with | [_, _], _ => rfl, ?_⟩
  refine fn_own (N := N__law_draws) D sc__law_draws fun cdv A outer s H E hr => ?_
  have nd := sc__law_draws.nd
  have hu1 := hu_of hr
  have hu64 := hr.units
  have hu65 := hu65_of hr
  show SB _ _ (defBody st__law_draws) F_l_draws
  unfold F_l_draws
  exact (s_cons (s_comp 2 [("_law_cell", 8)] rfl nd (i_scr (x_var 0)) (blkOk_by (N := N__law_draws) (sc := defScope st__law_draws) (by decide +kernel)) (fun _ _ _ _ _ => (g_name 8 nd)) (fun _ _ _ _ _ => ts_nil) (fun _ _ _ _ _ => (x_var 8)) (sw_true rfl rfl rfl (by decide +kernel)))
    (s_cons (s_setN 3 nd (n_lst a_nil))
    (s_cons (s_for .never rfl (i_range1 (by rfl) m_range (a_cons (x_var 1) a_nil)) (g_name 4 nd) (s_cons (s_set 5 nd x_int)
    (s_cons (s_if (q_bor (q_cmp op_gt ok_gt (x_bor (x_callB call_len_seq ok_len (by rfl) m_len (by decide +kernel) (a_cons (x_var 2) a_nil))) x_int (nomark _))) (s_cons (s_set 6 nd (x_bor (x_op op_mod ok_mod (x_callTy call_int1 ok_int (by rfl) m_int (by decide +kernel) (a_cons (x_var 4) a_nil)) (x_bor (x_callB call_len_seq ok_len (by rfl) m_len (by decide +kernel) (a_cons (x_var 2) a_nil))))))
    (s_one (s_if (q_cmp op_ge ok_ge (x_idxV 2 hu1 (x_var 6) (fun _ _ => rfl)) (x_op op_pow ok_pow x_int x_int) (nomark _)) (s_cons (s_set 5 nd (x_op op_mod ok_mod (x_callTy call_int1 ok_int (by rfl) m_int (by decide +kernel) (a_cons (x_idxV 2 hu1 (x_var 6) (fun _ _ => rfl)) a_nil)) x_int))
    (s_one (s_put 2 (x_var 6) (x_op op_fdiv ok_fdiv (x_idxV 2 hu1 (x_var 6) (fun _ _ => rfl)) x_int)))) (s_cons (s_set 7 nd (x_op op_mod ok_mod (x_callTy call_int1 ok_int (by rfl) m_int (by decide +kernel) (a_cons (x_op op_addD ok_add (x_op op_addD ok_add (x_op op_mulD ok_mul (x_idxV 2 hu1 (x_var 6) (fun _ _ => rfl)) x_int) (x_op op_mulD ok_mul (x_var 4) x_int)) x_int) a_nil)) x_int))
    (s_cons (s_set 7 nd (x_op op_mod ok_mod (x_callTy call_int1 ok_int (by rfl) m_int (by decide +kernel) (a_cons (x_op op_addD ok_add (x_op op_mulD ok_mul (x_var 7) x_int) (x_var 6)) a_nil)) x_int))
    (s_one (s_set 5 nd (x_op op_mod ok_mod (x_callTy call_int1 ok_int (by rfl) m_int (by decide +kernel) (a_cons (x_op op_fdiv ok_fdiv (x_var 7) x_int) a_nil)) x_int)))))))) s_nil)
    (s_one (s_exp (x_app 3 (a_cons (x_var 5) a_nil)))))))
    (s_one (s_retV 3)))))
abbrev st__law_at_most : Stmt := topS 6
abbrev N__law_at_most : List Str := ["_law_a", "_law_b"]
theorem sc__law_at_most : FnScope N__law_at_most ["_law_a", "_law_b"] (defScope st__law_at_most) := ⟨rfl, rfl, rfl, by decide +kernel, rfl, by decide +kernel, by decide +kernel⟩
theorem ok__law_at_most {P : Program} {w : World} {K : PySem.W.Frag} {mg : Str → Option Value} {base : Heap} {fa : Addr} {fd : FuncData} (D : FnP K "_law_at_most" st__law_at_most fa fd) (g : mg "_law_at_most" = some (.ref fa))
     : Fnd P w K mg base 1 "_law_at_most" ["_law_a", "_law_b"] (spV false fn_l_at_most) := by
  refine ⟨fa, fd, g, D.kp, D.bindsN fun _ _ _ _ _ _ us hl => match us, hl with | [_, _], _ => rfl, ?_⟩
  refine fn_val (N := N__law_at_most) D sc__law_at_most fun cdv A outer s H E hr => ?_
  have nd := sc__law_at_most.nd
  have hu1 := hu_of hr
  have hu64 := hr.units
  have hu65 := hu65_of hr
  show SB _ _ (defBody st__law_at_most) F_l_at_most
  unfold F_l_at_most
  exact (s_one (s_ret (x_or (x_cmp op_isD ok_is (x_var 1) x_non (nomark _)) (x_one (x_and (x_cmp op_notN ok_isNot (x_var 0) x_non (nomark _)) (x_one (x_cmp op_le ok_le (x_var 0) (x_var 1) (nomark _))))))))
abbrev st__law_shifted : Stmt := topS 7
abbrev N__law_shifted : List Str := ["_law_a", "_law_c"]
theorem sc__law_shifted : FnScope N__law_shifted ["_law_a", "_law_c"] (defScope st__law_shifted) := ⟨rfl, rfl, rfl, by decide +kernel, rfl, by decide +kernel, by decide +kernel⟩
theorem ok__law_shifted {P : Program} {w : World} {K : PySem.W.Frag} {mg : Str → Option Value} {base : Heap} {fa : Addr} {fd : FuncData} (D : FnP K "_law_shifted" st__law_shifted fa fd) (g : mg "_law_shifted" = some (.ref fa))
    (m_max : mg "max" = none) : Fnd P w K mg base 1 "_law_shifted" ["_law_a", "_law_c"] (spV false fn_l_shifted) := by
  refine ⟨fa, fd, g, D.kp, D.bindsN fun _ _ _ _ _ _ us hl => match us, hl with | [_, _], _ => rfl, ?_⟩
  refine fn_val (N := N__law_shifted) D sc__law_shifted fun cdv A outer s H E hr => ?_
  have nd := sc__law_shifted.nd
  have hu1 := hu_of hr
  have hu64 := hr.units
  have hu65 := hu65_of hr
  show SB _ _ (defBody st__law_shifted) F_l_shifted
  unfold F_l_shifted
  exact (s_cons (s_if (q_cmp op_isD ok_is (x_var 0) x_non (nomark _)) (s_one (s_ret x_non)) s_nil)
    (s_one (s_ret (x_callB (call_max2 rfl) ok_max2 (by rfl) m_max (by decide +kernel) (a_cons x_int (a_cons (x_op op_addD ok_add (x_var 0) (x_var 1)) a_nil))))))
abbrev st__law_one_of : Stmt := topS 8
abbrev N__law_one_of : List Str := ["_law_amounts", "_law_least", "_law_found", "_law_one"]
theorem sc__law_one_of : FnScope N__law_one_of ["_law_amounts", "_law_least"] (defScope st__law_one_of) := ⟨rfl, rfl, rfl, by decide +kernel, rfl, by decide +kernel, by decide +kernel⟩
theorem ok__law_one_of {P : Program} {w : World} {K : PySem.W.Frag} {mg : Str → Option Value} {base : Heap} {fa : Addr} {fd : FuncData} (D : FnP K "_law_one_of" st__law_one_of fa fd) (g : mg "_law_one_of" = some (.ref fa))
    (C__law_at_most : Fnd P w K mg base 1 "_law_at_most" ["_law_a", "_law_b"] (spV false fn_l_at_most)) : Fnd P w K mg base 2 "_law_one_of" ["_law_amounts", "_law_least"] (spV false fn_l_one_of) := by
  refine ⟨fa, fd, g, D.kp, D.bindsN fun _ _ _ _ _ _ us hl => match us, hl with | [_, _], _ => rfl, ?_⟩
  refine fn_val (N := N__law_one_of) D sc__law_one_of fun cdv A outer s H E hr => ?_
  have nd := sc__law_one_of.nd
  have hu1 := hu_of hr
  have hu64 := hr.units
  have hu65 := hu65_of hr
  show SB _ _ (defBody st__law_one_of) F_l_one_of
  unfold F_l_one_of
  exact (s_cons (s_set 2 nd (x_idx hu1 (x_var 0) x_int (fun _ _ => rfl)))
    (s_cons (s_for .never rfl (i_list (x_var 0)) (g_name 3 nd) (s_one (s_if (q_and (q_cmp (op_eqD hu64) ok_eq (x_call C__law_at_most hr (by rfl) (a_cons (x_var 3) (a_cons (x_var 2) a_nil))) (x_var 1) (nomark _)) (q_and1 (q_cmp (op_neD hu64) ok_ne (x_var 3) (x_var 2) (nomark _)))).pt (s_one (s_set 2 nd (x_var 3))) s_nil)))
    (s_one (s_ret (x_var 2)))))
abbrev st__law_term_value : Stmt := topS 9
abbrev N__law_term_value : List Str := ["_law_term_here", "_law_x", "_law_found", "_law_j", "_law_c"]
theorem sc__law_term_value : FnScope N__law_term_value ["_law_term_here", "_law_x"] (defScope st__law_term_value) := ⟨rfl, rfl, rfl, by decide +kernel, rfl, by decide +kernel, by decide +kernel⟩
theorem ok__law_term_value {P : Program} {w : World} {K : PySem.W.Frag} {mg : Str → Option Value} {base : Heap} {fa : Addr} {fd : FuncData} (D : FnP K "_law_term_value" st__law_term_value fa fd) (g : mg "_law_term_value" = some (.ref fa))
     : Fnd P w K mg base 1 "_law_term_value" ["_law_term_here", "_law_x"] (spV false fn_l_term_value) := by
  refine ⟨fa, fd, g, D.kp, D.bindsN fun _ _ _ _ _ _ us hl => match us, hl with | [_, _], _ => rfl, ?_⟩
  refine fn_val (N := N__law_term_value) D sc__law_term_value fun cdv A outer s H E hr => ?_
  have nd := sc__law_term_value.nd
  have hu1 := hu_of hr
  have hu64 := hr.units
  have hu65 := hu65_of hr
  show SB _ _ (defBody st__law_term_value) F_l_term_value
  unfold F_l_term_value
  exact (s_cons (s_set 2 nd (x_idx hu1 (x_var 0) x_int (fun _ _ => rfl)))
    (s_cons (s_for .never rfl (i_list (x_idx hu1 (x_var 0) x_int (fun _ _ => rfl))) (g_tup rfl (g_cons (g_name 3 nd) (g_cons (g_name 4 nd) g_nil)) (gl_cons (gl_cons gl_nil))) (s_one (s_if (q_and (q_cmp op_notN ok_isNot (x_idx hu1 (x_var 1) (x_var 3) (fun _ _ => rfl)) x_non (nomark _)) (q_and1 (q_or (q_cmp op_isD ok_is (x_var 2) x_non (nomark _)) (q_or1 (q_cmp op_lt ok_lt (x_op op_addD ok_add (x_idx hu1 (x_var 1) (x_var 3) (fun _ _ => rfl)) (x_var 4)) (x_var 2) (nomark _)))).pt)).pt (s_one (s_set 2 nd (x_op op_addD ok_add (x_idx hu1 (x_var 1) (x_var 3) (fun _ _ => rfl)) (x_var 4)))) s_nil)))
    (s_one (s_ret (x_var 2)))))
abbrev st__law_term : Stmt := topS 10
abbrev N__law_term : List Str := ["_law_draws_here", "_law_limit", "_law_arcs", "_law_j", "_law_c"]
theorem sc__law_term : FnScope N__law_term ["_law_draws_here"] (defScope st__law_term) := ⟨rfl, rfl, rfl, by decide +kernel, rfl, by decide +kernel, by decide +kernel⟩
theorem ok__law_term {P : Program} {w : World} {K : PySem.W.Frag} {mg : Str → Option Value} {base : Heap} {fa : Addr} {fd : FuncData} (D : FnP K "_law_term" st__law_term fa fd) (g : mg "_law_term" = some (.ref fa))
    (m_range : mg "range" = none) (m_int : mg "int" = none) : Fnd P w K mg base 1 "_law_term" ["_law_draws_here"] (spV false fn_l_term) := by
  refine ⟨fa, fd, g, D.kp, D.bindsN fun _ _ _ _ _ _ us hl => match us, hl with | [_], _ => rfl, ?_⟩
  refine fn_val (N := N__law_term) D sc__law_term fun cdv A outer s H E hr => ?_
  have nd := sc__law_term.nd
  have hu1 := hu_of hr
  have hu64 := hr.units
  have hu65 := hu65_of hr
  show SB _ _ (defBody st__law_term) F_l_term
  unfold F_l_term
  exact (s_cons (s_set 1 nd (x_idx hu1 (x_lst (a_cons x_non (a_cons x_non (a_cons x_int (a_cons x_int (a_cons x_int (a_cons x_int (a_cons x_int a_nil)))))))) (x_op op_mod ok_mod (x_callTy call_int1 ok_int (by rfl) m_int (by decide +kernel) (a_cons (x_idx hu1 (x_var 0) x_int (fun _ _ => rfl)) a_nil)) x_int) (fun _ _ => rfl)))
    (s_cons (s_setN 2 nd (n_lst a_nil))
    (s_cons (s_for .never rfl (i_range1 (by rfl) m_range (a_cons x_int a_nil)) (g_name 3 nd) (s_one (s_if (q_cmp (op_eqD hu64) ok_eq (x_op op_mod ok_mod (x_callTy call_int1 ok_int (by rfl) m_int (by decide +kernel) (a_cons (x_idx hu1 (x_var 0) (x_op op_addD ok_add x_int (x_var 3)) (fun _ _ => rfl)) a_nil)) x_int) x_int (nomark _)) (s_one (s_exp (x_app 2 (a_cons (x_tup (a_cons (x_var 3) (a_cons (x_op op_sub ok_sub (x_op op_mod ok_mod (x_callTy call_int1 ok_int (by rfl) m_int (by decide +kernel) (a_cons (x_op op_fdiv ok_fdiv (x_idx hu1 (x_var 0) (x_op op_addD ok_add x_int (x_var 3)) (fun _ _ => rfl)) x_int) a_nil)) x_int) x_int) a_nil))) a_nil)))) s_nil)))
    (s_one (s_ret (x_tup (a_cons (x_var 1) (a_cons (n_comp [("_law_j", 3), ("_law_c", 4)] rfl nd (i_list (x_var 2)) (blkOk_by (N := N__law_term) (sc := defScope st__law_term) (by decide +kernel)) (fun _ _ _ _ _ => (g_tup rfl (g_cons (g_name 3 nd) (g_cons (g_name 4 nd) g_nil)) (gl_cons (gl_cons gl_nil)))) (fun _ _ _ _ _ => (ts_one (q_or (q_cmp op_isD ok_is (x_var 1) x_non (nomark _)) (q_or1 (q_cmp op_lt ok_lt (x_var 4) (x_var 1) (nomark _)))).pt)) (fun _ _ _ _ _ => (x_tup (a_cons (x_var 3) (a_cons (x_var 4) a_nil))))).px a_nil))))))))
abbrev st__law_no_more : Stmt := topS 11
abbrev N__law_no_more : List Str := ["_law_term_here", "_law_other", "_law_limit", "_law_arcs", "_law_top", "_law_x", "_law_j", "_law_c", "_law_cell"]
theorem sc__law_no_more : FnScope N__law_no_more ["_law_term_here", "_law_other"] (defScope st__law_no_more) := ⟨rfl, rfl, rfl, by decide +kernel, rfl, by decide +kernel, by decide +kernel⟩
theorem ok__law_no_more {P : Program} {w : World} {K : PySem.W.Frag} {mg : Str → Option Value} {base : Heap} {fa : Addr} {fd : FuncData} (D : FnP K "_law_no_more" st__law_no_more fa fd) (g : mg "_law_no_more" = some (.ref fa))
    (m_range : mg "range" = none) (m_abs : mg "abs" = none) (m_sum : mg "sum" = none) (m_len : mg "len" = none) (C__law_at_most : Fnd P w K mg base 1 "_law_at_most" ["_law_a", "_law_b"] (spV false fn_l_at_most)) (C__law_term_value : Fnd P w K mg base 1 "_law_term_value" ["_law_term_here", "_law_x"] (spV false fn_l_term_value)) : Fnd P w K mg base 2 "_law_no_more" ["_law_term_here", "_law_other"] (spV false fn_l_no_more) := by
  refine ⟨fa, fd, g, D.kp, D.bindsN fun _ _ _ _ _ _ us hl => match us, hl with | [_, _], _ => rfl, ?_⟩
  refine fn_val (N := N__law_no_more) D sc__law_no_more fun cdv A outer s H E hr => ?_
  have nd := sc__law_no_more.nd
  have hu1 := hu_of hr
  have hu64 := hr.units
  have hu65 := hu65_of hr
  show SB _ _ (defBody st__law_no_more) F_l_no_more
  unfold F_l_no_more
  exact (s_cons (s_asg (x_var 0) (g_tup rfl (g_cons (g_name 2 nd) (g_cons (g_name 3 nd) g_nil)) (gl_cons (gl_cons gl_nil))))
    (s_cons (s_if (q_and (q_cmp op_isD ok_is (x_var 2) x_non (nomark _)) (q_and1 (q_cmp (op_eqD hu64) ok_eq (x_callB call_len_seq ok_len (by rfl) m_len (by decide +kernel) (a_cons (x_var 3) a_nil)) x_int (nomark _)))).pt (s_one (s_ret (x_and (x_cmp op_isD ok_is (x_idx hu1 (x_var 1) x_int (fun _ _ => rfl)) x_non (nomark _)) (x_one (x_cmp (op_eqD hu64) ok_eq (x_callB call_len_seq ok_len (by rfl) m_len (by decide +kernel) (a_cons (x_idx hu1 (x_var 1) x_int (fun _ _ => rfl)) a_nil)) x_int (nomark _)))))) s_nil)
    (s_cons (s_set 4 nd (x_var 2))
    (s_cons (s_if (q_cmp op_isD ok_is (x_var 2) x_non (nomark _)) (s_cons (s_set 4 nd (x_op op_addD ok_add x_int (x_op op_mulD ok_mul x_int (x_callB (cr_sum rfl) ok_sum (by rfl) m_sum (by decide +kernel) (a_cons (n_comp [("_law_j", 6), ("_law_c", 7)] rfl nd (i_list (x_op op_addD ok_add (x_var 3) (x_idx hu1 (x_var 1) x_int (fun _ _ => rfl)))) (blkOk_by (N := N__law_no_more) (sc := defScope st__law_no_more) (by decide +kernel)) (fun _ _ _ _ _ => (g_tup rfl (g_cons (g_name 6 nd) (g_cons (g_name 7 nd) g_nil)) (gl_cons (gl_cons gl_nil)))) (fun _ _ _ _ _ => ts_nil) (fun _ _ _ _ _ => (x_callB call_abs ok_abs (by rfl) m_abs (by decide +kernel) (a_cons (x_var 7) a_nil)))).px a_nil)))))
    (s_one (s_if (q_cmp op_notN ok_isNot (x_idx hu1 (x_var 1) x_int (fun _ _ => rfl)) x_non (nomark _)) (s_one (s_set 4 nd (x_op op_addD ok_add (x_var 4) (x_idx hu1 (x_var 1) x_int (fun _ _ => rfl))))) s_nil))) s_nil)
    (s_cons (s_comp 5 [("_law_cell", 8)] rfl nd (i_range1 (by rfl) m_range (a_cons x_int a_nil)) (blkOk_by (N := N__law_no_more) (sc := defScope st__law_no_more) (by decide +kernel)) (fun _ _ _ _ _ => (g_name 8 nd)) (fun _ _ _ _ _ => ts_nil) (fun _ _ _ _ _ => x_int) (sw_true rfl rfl rfl (by decide +kernel)))
    (s_cons (s_for .never rfl (i_list (x_var 3)) (g_tup rfl (g_cons (g_name 6 nd) (g_cons (g_name 7 nd) g_nil)) (gl_cons (gl_cons gl_nil))) (s_one (s_put 5 (x_var 6) (x_op op_sub ok_sub (x_var 4) (x_var 7)))))
    (s_one (s_ret (x_call C__law_at_most hr (by rfl) (a_cons (x_var 4) (a_cons (x_call C__law_term_value hr (by rfl) (a_cons (x_var 1) (a_cons (x_var 5) a_nil))) a_nil)))))))))))
abbrev st__law_near : Stmt := topS 12
abbrev N__law_near : List Str := ["_law_term_here", "_law_draws_here", "_law_limit", "_law_arcs", "_law_found", "_law_at", "_law_j", "_law_c"]
theorem sc__law_near : FnScope N__law_near ["_law_term_here", "_law_draws_here"] (defScope st__law_near) := ⟨rfl, rfl, rfl, by decide +kernel, rfl, by decide +kernel, by decide +kernel⟩
theorem ok__law_near {P : Program} {w : World} {K : PySem.W.Frag} {mg : Str → Option Value} {base : Heap} {fa : Addr} {fd : FuncData} (D : FnP K "_law_near" st__law_near fa fd) (g : mg "_law_near" = some (.ref fa))
    (m_int : mg "int" = none) (m_len : mg "len" = none) (m_list : mg "list" = none) : Fnd P w K mg base 1 "_law_near" ["_law_term_here", "_law_draws_here"] (spV false fn_l_near) := by
  refine ⟨fa, fd, g, D.kp, D.bindsN fun _ _ _ _ _ _ us hl => match us, hl with | [_, _], _ => rfl, ?_⟩
  refine fn_val (N := N__law_near) D sc__law_near fun cdv A outer s H E hr => ?_
  have nd := sc__law_near.nd
  have hu1 := hu_of hr
  have hu64 := hr.units
  have hu65 := hu65_of hr
  show SB _ _ (defBody st__law_near) F_l_near
  unfold F_l_near
  exact (s_cons (s_asg (x_var 0) (g_tup rfl (g_cons (g_name 2 nd) (g_cons (g_name 3 nd) g_nil)) (gl_cons (gl_cons gl_nil))))
    (s_cons (s_set 4 nd (n_callTy call_list_of ok_lstOf (by rfl) m_list (by decide +kernel) (a_cons (x_var 3) a_nil)).px)
    (s_cons (s_if (q_cmp op_gt ok_gt (x_callB call_len_seq ok_len (by rfl) m_len (by decide +kernel) (a_cons (x_var 4) a_nil)) x_int (nomark _)) (s_cons (s_set 5 nd (x_op op_mod ok_mod (x_callTy call_int1 ok_int (by rfl) m_int (by decide +kernel) (a_cons (x_idx hu1 (x_var 1) x_int (fun _ _ => rfl)) a_nil)) (x_callB call_len_seq ok_len (by rfl) m_len (by decide +kernel) (a_cons (x_var 4) a_nil))))
    (s_cons (s_asg (x_idx hu1 (x_var 4) (x_var 5) (fun _ _ => rfl)) (g_tup rfl (g_cons (g_name 6 nd) (g_cons (g_name 7 nd) g_nil)) (gl_cons (gl_cons gl_nil))))
    (s_one (s_set 4 nd (x_op op_addD ok_add (x_op op_addD ok_add (n_sl (x_var 4) o_none (o_some (x_var 5))).px (x_idx hu1 (x_lst (a_cons (x_lst (a_cons (x_tup (a_cons (x_var 6) (a_cons (x_op op_sub ok_sub (x_op op_addD ok_add (x_var 7) (x_op op_mod ok_mod (x_callTy call_int1 ok_int (by rfl) m_int (by decide +kernel) (a_cons (x_idx hu1 (x_var 1) x_int (fun _ _ => rfl)) a_nil)) x_int)) x_int) a_nil))) a_nil)) (a_cons (x_lst a_nil) a_nil))) (x_callTy call_int1 ok_int (by rfl) m_int (by decide +kernel) (a_cons (x_cmp (op_eqD hu64) ok_eq (x_op op_mod ok_mod (x_callTy call_int1 ok_int (by rfl) m_int (by decide +kernel) (a_cons (x_idx hu1 (x_var 1) x_int (fun _ _ => rfl)) a_nil)) x_int) x_int (nomark _)) a_nil)) (fun _ _ => rfl))) (n_sl (x_var 4) (o_some (x_op op_addD ok_add (x_var 5) x_int)) o_none).px))))) s_nil)
    (s_cons (s_if (q_cmp (op_eqD hu64) ok_eq (x_op op_mod ok_mod (x_callTy call_int1 ok_int (by rfl) m_int (by decide +kernel) (a_cons (x_idx hu1 (x_var 1) x_int (fun _ _ => rfl)) a_nil)) x_int) x_int (nomark _)) (s_one (s_set 2 nd (x_idx hu1 (x_lst (a_cons x_non (a_cons x_int (a_cons x_int (a_cons x_int a_nil))))) (x_op op_mod ok_mod (x_callTy call_int1 ok_int (by rfl) m_int (by decide +kernel) (a_cons (x_idx hu1 (x_var 1) x_int (fun _ _ => rfl)) a_nil)) x_int) (fun _ _ => rfl)))) s_nil)
    (s_one (s_ret (x_tup (a_cons (x_var 2) (a_cons (n_comp [("_law_j", 6), ("_law_c", 7)] rfl nd (i_list (x_var 4)) (blkOk_by (N := N__law_near) (sc := defScope st__law_near) (by decide +kernel)) (fun _ _ _ _ _ => (g_tup rfl (g_cons (g_name 6 nd) (g_cons (g_name 7 nd) g_nil)) (gl_cons (gl_cons gl_nil)))) (fun _ _ _ _ _ => (ts_one (q_or (q_cmp op_isD ok_is (x_var 2) x_non (nomark _)) (q_or1 (q_cmp op_lt ok_lt (x_var 7) (x_var 2) (nomark _)))).pt)) (fun _ _ _ _ _ => (x_tup (a_cons (x_var 6) (a_cons (x_var 7) a_nil))))).px a_nil)))))))))
abbrev st_law : Stmt := topS 13
abbrev N_law : List Str := ["_law_script", "_law_draws_here", "_law_first", "_law_second", "_law_kept", "_law_one", "_law_other", "_law_actual", "_law_turn", "_law_x", "_law_k"]
theorem sc_law : FnScope N_law ["_law_script"] (defScope st_law) := ⟨rfl, rfl, rfl, by decide +kernel, rfl, by decide +kernel, by decide +kernel⟩
theorem ok_law {P : Program} {w : World} {K : PySem.W.Frag} {mg : Str → Option Value} {base : Heap} {fa : Addr} {fd : FuncData} (D : FnP K "law" st_law fa fd)
    (m_repr : mg "repr" = none) (m_range : mg "range" = none) (m_int : mg "int" = none) (m_isinstance : mg "isinstance" = none) (m_bool : mg "bool" = none) (C_is_no_more : Fnd P w K mg base 2 "is_no_more" ["term", "other"] (spV false fn_is_no_more)) (C__law_at_most : Fnd P w K mg base 2 "_law_at_most" ["_law_a", "_law_b"] (spV false fn_l_at_most)) (C__law_term_value : Fnd P w K mg base 2 "_law_term_value" ["_law_term_here", "_law_x"] (spV false fn_l_term_value)) (C__law_no_more : Fnd P w K mg base 2 "_law_no_more" ["_law_term_here", "_law_other"] (spV false fn_l_no_more)) (C__law_near : Fnd P w K mg base 2 "_law_near" ["_law_term_here", "_law_draws_here"] (spV false fn_l_near)) (C__law_term : Fnd P w K mg base 2 "_law_term" ["_law_draws_here"] (spV false fn_l_term)) (C__law_draws : Fnd P w K mg base 2 "_law_draws" ["_law_script", "_law_count"] (spV true fn_l_draws)) : FnG P w K mg base 3 fa fd ["_law_script"] (spLaw 63) := by
  refine law_fn (N := N_law) (F := F_law_k64) D sc_law (fun cdv A outer s H E hG hr => ?_) math_law_k64
  have nd := sc_law.nd
  have hu1 := hu_of hr
  have hu64 := hr.units
  have hu65 := hu65_of hr
  show SB _ _ (defBody st_law) F_law_k64
  unfold F_law_k64
  exact (s_cons (s_set 1 nd (x_callN C__law_draws hr (by rfl) (a_cons (x_var 0) (a_cons x_int a_nil))))
    (s_cons (s_par 2 3 rfl nd rfl rfl (a_cons (x_call C__law_term hr (by rfl) (a_cons (n_sl (x_var 1) o_none (o_some x_int)).px a_nil)) (a_cons (x_call C__law_term hr (by rfl) (a_cons (n_sl (x_var 1) (o_some x_int) (o_some x_int)).px a_nil)) a_nil)) (by with_unfolding_all rfl))
    (s_cons (s_if (q_cmp (op_eqD hu64) ok_eq (x_op op_mod ok_mod (x_callTy call_int1 ok_int (by rfl) m_int (by decide +kernel) (a_cons (x_idx hu1 (x_var 1) x_int (fun _ _ => rfl)) a_nil)) x_int) x_int (nomark _)) (s_one (s_set 3 nd (x_call C__law_near hr (by rfl) (a_cons (x_var 2) (a_cons (n_sl (x_var 1) (o_some x_int) (o_some x_int)).px a_nil))))) s_nil)
    (s_cons (s_set 4 nd (x_callB (cr_repr hG hu64) ok_repr (by rfl) m_repr (by decide +kernel) (a_cons (x_tup (a_cons (x_var 2) (a_cons (x_var 3) a_nil))) a_nil)))
    (s_cons (s_for .never rfl (i_list (x_lst (a_cons (x_tup (a_cons (x_var 2) (a_cons (x_var 3) a_nil))) (a_cons (x_tup (a_cons (x_var 3) (a_cons (x_var 2) a_nil))) (a_cons (x_tup (a_cons (x_var 2) (a_cons (x_var 2) a_nil))) a_nil))))) (g_tup rfl (g_cons (g_name 5 nd) (g_cons (g_name 6 nd) g_nil)) (gl_cons (gl_cons gl_nil))) (s_cons (s_set 7 nd (x_call C_is_no_more hr (by rfl) (a_cons (x_var 5) (a_cons (x_var 6) a_nil))))
    (s_cons (s_if (q_or (q_not (q_truth (x_isi (x_var 7) (by rfl) m_isinstance (by rfl) m_bool (by decide +kernel) kit_bool))) (q_or1 (q_cmp (op_neD hu64) ok_ne (x_var 7) (x_call C__law_no_more hr (by rfl) (a_cons (x_var 5) (a_cons (x_var 6) a_nil))) (nomark _)))).pt (s_one (s_ret x_bl)) s_nil)
    (s_one (s_for .never rfl (i_range1 (by rfl) m_range (a_cons x_int a_nil)) (g_name 8 nd) (s_cons (s_compF 9 [("_law_k", 10)] rfl nd (i_range1 (by rfl) m_range (a_cons x_int a_nil)) (blkOk_by (N := N_law) (sc := defScope st_law) (by decide +kernel)) (fun _ _ _ _ _ => (g_name 10 nd)) (fun _ _ _ _ _ => ts_nil) (fun _ _ _ _ _ => (x_idx hu1 (x_lst (a_cons (x_op op_mod ok_mod (x_callTy call_int1 ok_int (by rfl) m_int (by decide +kernel) (a_cons (x_idx hu1 (x_var 1) (x_op op_addD ok_add (x_op op_addD ok_add x_int (x_op op_mulD ok_mul x_int (x_var 8))) (x_var 10)) (fun _ _ => rfl)) a_nil)) x_int) (a_cons x_non a_nil))) (x_callTy call_int1 ok_int (by rfl) m_int (by decide +kernel) (a_cons (x_cmp (op_eqD hu64) ok_eq (x_op op_mod ok_mod (x_callTy call_int1 ok_int (by rfl) m_int (by decide +kernel) (a_cons (x_idx hu1 (x_var 1) (x_op op_addD ok_add (x_op op_addD ok_add x_int (x_op op_mulD ok_mul x_int (x_var 8))) (x_var 10)) (fun _ _ => rfl)) a_nil)) x_int) x_int (nomark _)) a_nil)) (fun _ _ => rfl))) (sw_true rfl rfl rfl (by decide +kernel)))
    (s_one (s_if (q_and (q_truth (x_var 7)) (q_and1 (q_not (q_truth (x_call C__law_at_most hr (by rfl) (a_cons (x_call C__law_term_value hr (by rfl) (a_cons (x_var 5) (a_cons (x_var 9) a_nil))) (a_cons (x_call C__law_term_value hr (by rfl) (a_cons (x_var 6) (a_cons (x_var 9) a_nil))) a_nil))))))).pt (s_one (s_ret x_bl)) s_nil))))))))
    (s_one (s_ret (x_and (x_cmp op_isD ok_is (x_call C_is_no_more hr (by rfl) (a_cons (x_var 2) (a_cons (x_var 2) a_nil))) x_bl (nomark _)) (x_one (x_cmp (op_eqD hu64) ok_eq (x_callB (cr_repr hG hu64) ok_repr (by rfl) m_repr (by decide +kernel) (a_cons (x_tup (a_cons (x_var 2) (a_cons (x_var 3) a_nil))) a_nil)) (x_var 4) (nomark _)))))))))))
def d_at_most : He.DefD := ⟨("at_most", none), "at_most", "at_most", defArgs st_at_most, defBody st_at_most, defScope st_at_most, [], []⟩
def d_is_no_more : He.DefD := ⟨("is_no_more", none), "is_no_more", "is_no_more", defArgs st_is_no_more, defBody st_is_no_more, defScope st_is_no_more, [], []⟩
def d__law_draws : He.DefD := ⟨("_law_draws", none), "_law_draws", "_law_draws", defArgs st__law_draws, defBody st__law_draws, defScope st__law_draws, [], []⟩
def d__law_at_most : He.DefD := ⟨("_law_at_most", none), "_law_at_most", "_law_at_most", defArgs st__law_at_most, defBody st__law_at_most, defScope st__law_at_most, [], []⟩
def d__law_shifted : He.DefD := ⟨("_law_shifted", none), "_law_shifted", "_law_shifted", defArgs st__law_shifted, defBody st__law_shifted, defScope st__law_shifted, [], []⟩
def d__law_one_of : He.DefD := ⟨("_law_one_of", none), "_law_one_of", "_law_one_of", defArgs st__law_one_of, defBody st__law_one_of, defScope st__law_one_of, [], []⟩
def d__law_term_value : He.DefD := ⟨("_law_term_value", none), "_law_term_value", "_law_term_value", defArgs st__law_term_value, defBody st__law_term_value, defScope st__law_term_value, [], []⟩
def d__law_term : He.DefD := ⟨("_law_term", none), "_law_term", "_law_term", defArgs st__law_term, defBody st__law_term, defScope st__law_term, [], []⟩
def d__law_no_more : He.DefD := ⟨("_law_no_more", none), "_law_no_more", "_law_no_more", defArgs st__law_no_more, defBody st__law_no_more, defScope st__law_no_more, [], []⟩
def d__law_near : He.DefD := ⟨("_law_near", none), "_law_near", "_law_near", defArgs st__law_near, defBody st__law_near, defScope st__law_near, [], []⟩
def d_law : He.DefD := ⟨("law", none), "law", "law", defArgs st_law, defBody st_law, defScope st_law, [], []⟩
def hfn0 : List He.DefD := [d_at_most, d_is_no_more, d__law_draws, d__law_at_most, d__law_shifted, d__law_one_of, d__law_term_value, d__law_term, d__law_no_more, d__law_near, d_law]
def hfn : List He.DefD := hfn0
def hfa0 : List He.Fa := [.glo "at_most", .glo "is_no_more", .glo "_law_draws", .glo "_law_at_most", .glo "_law_shifted", .glo "_law_one_of", .glo "_law_term_value", .glo "_law_term", .glo "_law_no_more", .glo "_law_near", .glo "law", .free "abs", .free "bool", .free "dict", .free "int", .free "isinstance", .free "len", .free "list", .free "max", .free "range", .free "repr", .free "sum"]
def hfa : List He.Fa := hfa0
def looseN0 : List PySem.Str := ["at_most", "is_no_more", "_law_draws", "_law_at_most", "_law_shifted", "_law_one_of", "_law_term_value", "_law_term", "_law_no_more", "_law_near"]
def looseN : List PySem.Str := looseN0
abbrev RR : PySem.W.OpenRow := PySem.W.OpenLaw.row PySem.Challenge.rw_circlesettle_k64_terms_that_are_no_more
abbrev hk : PySem.W.Hook := hookL 4 hfa hfn
def ob (s : PySem.W.SharedT) : AlL := obsLG 4 hfa hfn (HandSHeadRun.getT s)
theorem ob_eq (s : PySem.W.SharedT) : ob s = hk.obs s.abs := obsLG_eq (HandSHeadRun.getT_eq s)
theorem run (w : World) : HandSHeadRun.RunEq RR (PySem.W.view RR.prog [13]) hk ob 3000 looseN w := by
  intro os
  kernel_rfl
theorem facts {P : Program} {w : World} {K : PySem.W.Frag} {h : Heap} {mg : Str → Option Value} {f : Addr} (X : K.In h) (G : h.Ns mainGlobals mg) (hlaw : mg ("law" : Str) = some (.ref f)) (c : He.SaysD hfa hfn K) :
    ∃ fd : FuncData, (∀ (s : Shared) (v : Value), BindsTo s fd ⟨[v], []⟩ [("_law_script", v)]) ∧ ∀ base : Heap, K.In base → base.Ns mainGlobals mg → FnG P w K mg base 3 f fd ["_law_script"] (spLaw 63) := by
  have m_abs := He.free_ok X G (c.fact 11 (f := .free "abs") rfl)
  have m_bool := He.free_ok X G (c.fact 12 (f := .free "bool") rfl)
  have m_dict := He.free_ok X G (c.fact 13 (f := .free "dict") rfl)
  have m_int := He.free_ok X G (c.fact 14 (f := .free "int") rfl)
  have m_isinstance := He.free_ok X G (c.fact 15 (f := .free "isinstance") rfl)
  have m_len := He.free_ok X G (c.fact 16 (f := .free "len") rfl)
  have m_list := He.free_ok X G (c.fact 17 (f := .free "list") rfl)
  have m_max := He.free_ok X G (c.fact 18 (f := .free "max") rfl)
  have m_range := He.free_ok X G (c.fact 19 (f := .free "range") rfl)
  have m_repr := He.free_ok X G (c.fact 20 (f := .free "repr") rfl)
  have m_sum := He.free_ok X G (c.fact 21 (f := .free "sum") rfl)
  obtain ⟨fd_at_most, D_at_most⟩ := c.def_ 0 (d := d_at_most) rfl
  have g_at_most := He.glo_ok X G (c.fact 0 (f := .glo "at_most") rfl)
  obtain ⟨fd_is_no_more, D_is_no_more⟩ := c.def_ 1 (d := d_is_no_more) rfl
  have g_is_no_more := He.glo_ok X G (c.fact 1 (f := .glo "is_no_more") rfl)
  obtain ⟨fd__law_draws, D__law_draws⟩ := c.def_ 2 (d := d__law_draws) rfl
  have g__law_draws := He.glo_ok X G (c.fact 2 (f := .glo "_law_draws") rfl)
  obtain ⟨fd__law_at_most, D__law_at_most⟩ := c.def_ 3 (d := d__law_at_most) rfl
  have g__law_at_most := He.glo_ok X G (c.fact 3 (f := .glo "_law_at_most") rfl)
  obtain ⟨fd__law_shifted, D__law_shifted⟩ := c.def_ 4 (d := d__law_shifted) rfl
  have g__law_shifted := He.glo_ok X G (c.fact 4 (f := .glo "_law_shifted") rfl)
  obtain ⟨fd__law_one_of, D__law_one_of⟩ := c.def_ 5 (d := d__law_one_of) rfl
  have g__law_one_of := He.glo_ok X G (c.fact 5 (f := .glo "_law_one_of") rfl)
  obtain ⟨fd__law_term_value, D__law_term_value⟩ := c.def_ 6 (d := d__law_term_value) rfl
  have g__law_term_value := He.glo_ok X G (c.fact 6 (f := .glo "_law_term_value") rfl)
  obtain ⟨fd__law_term, D__law_term⟩ := c.def_ 7 (d := d__law_term) rfl
  have g__law_term := He.glo_ok X G (c.fact 7 (f := .glo "_law_term") rfl)
  obtain ⟨fd__law_no_more, D__law_no_more⟩ := c.def_ 8 (d := d__law_no_more) rfl
  have g__law_no_more := He.glo_ok X G (c.fact 8 (f := .glo "_law_no_more") rfl)
  obtain ⟨fd__law_near, D__law_near⟩ := c.def_ 9 (d := d__law_near) rfl
  have g__law_near := He.glo_ok X G (c.fact 9 (f := .glo "_law_near") rfl)
  obtain ⟨fd_law, D_law⟩ := c.def_ 10 (d := d_law) rfl
  have g_law := He.glo_ok X G (c.fact 10 (f := .glo "law") rfl)
  have e := hlaw.symm.trans g_law
  cases e
  refine ⟨fd_law, fun s v => (FunD.bindsA (ps := ["_law_script"]) D_law fun _ _ _ _ _ _ us hl => match us, hl with | [_], _ => rfl) s [v] rfl, fun base _ _ => ?_⟩
  have C_at_most := ok_at_most (P := P) (w := w) (base := base) D_at_most g_at_most  
  have C_is_no_more := ok_is_no_more (P := P) (w := w) (base := base) D_is_no_more g_is_no_more m_dict (C_at_most.up (by decide))
  have C__law_at_most := ok__law_at_most (P := P) (w := w) (base := base) D__law_at_most g__law_at_most  
  have C__law_term_value := ok__law_term_value (P := P) (w := w) (base := base) D__law_term_value g__law_term_value  
  have C__law_no_more := ok__law_no_more (P := P) (w := w) (base := base) D__law_no_more g__law_no_more m_range m_abs m_sum m_len (C__law_at_most.up (by decide)) (C__law_term_value.up (by decide))
  have C__law_near := ok__law_near (P := P) (w := w) (base := base) D__law_near g__law_near m_int m_len m_list 
  have C__law_term := ok__law_term (P := P) (w := w) (base := base) D__law_term g__law_term m_range m_int 
  have C__law_draws := ok__law_draws (P := P) (w := w) (base := base) D__law_draws g__law_draws m_range m_len m_int 
  exact ok_law (P := P) (w := w) (base := base) D_law m_repr m_range m_int m_isinstance m_bool (C_is_no_more.up (by decide)) (C__law_at_most.up (by decide)) (C__law_term_value.up (by decide)) (C__law_no_more.up (by decide)) (C__law_near.up (by decide)) (C__law_term.up (by decide)) (C__law_draws.up (by decide))
end CL
open PySem PySem.W PySem.Calls PyProof.Rows
set_option maxRecDepth 100000 in
theorem PySem.Challenge.cw_circlesettle_k64_terms_that_are_no_more_holds : PySem.Challenge.rw_circlesettle_k64_terms_that_are_no_more.Holds := by
  w_on; o_law
  refine HandSHeadRun.head_any (r := OpenLaw.row PySem.Challenge.rw_circlesettle_k64_terms_that_are_no_more) (q := view (OpenLaw.row PySem.Challenge.rw_circlesettle_k64_terms_that_are_no_more).prog [13]) (H := CL.hk) (ob := CL.ob) (M := 3000) (loose := CL.looseN) (d := HandSHeadRun.topDef (OpenLaw.row PySem.Challenge.rw_circlesettle_k64_terms_that_are_no_more).prog 13) (kwd := []) CL.ob_eq
    (by kernel_rfl) (fun s => by kernel_rfl) CL.run (by kernel_rfl) (by kernel_rfl) (by kernel_rfl) (by rfl) (by first | assumption | decide +kernel) (by decide +kernel) ⟨rfl, rfl, rfl, rfl, rfl, by decide +kernel⟩ ?hw ?hc
  case hw => w_witness2
  case hc =>
    refine DL.law_end (l := PySem.Challenge.rw_circlesettle_k64_terms_that_are_no_more) (n := 63) (k := 3) (x := "_law_script") rfl (by decide) (by kernel_rfl) ⟨rfl, by decide, by decide⟩ ?F
    intro w mg fa h Y G hmg0
    obtain ⟨K, KX, nl, c⟩ := Y
    have hmg : mg ("law" : PySem.Str) = some (.ref fa) := by
      have e : (HandSHeadRun.topDef (OpenLaw.row PySem.Challenge.rw_circlesettle_k64_terms_that_are_no_more).prog 13).name = ("law" : PySem.Str) := by kernel_rfl
      rw [← e]
      exact hmg0
    obtain ⟨fd, hb, hF⟩ := CL.facts (P := (PySem.Challenge.rw_circlesettle_k64_terms_that_are_no_more).prog) (w := w) KX G hmg c
    exact ⟨K, fd, DL.spLaw 63, KX, nl, hb, fun H a ns hl hS => ⟨a, ns, rfl, hl, hS, fun _ => rfl⟩, hF⟩
