import PyProof.Rows.All
import Wide.All
import OpenK.AllK
import Wide.FinOn
import PyProof.EqAt
import PyProof.EqKinds
import PyProof.TupleCall
import Open.SpecLaws
import KE.OsGo
import HandS.ForSpec
import HandS.ForMost
import HandS.ExcInit
import HandS.ExcField
import HandS.More
import HandS.Conv
import HandS.Deep
import HandS.DictTup
import HandS.NoneIn
import HandS.Style
import HandS.SortOrd
import HandS.SortRule
import HandS.SortInts
import HandS.TupAny
import HandS.TupLen
import HandS.Flow
import HandS.Walk
import PySem.Challenge.RW_seenfiles_s01_answers
import KE.KDictPairs
import KE.DataMinMax
import HandS.TupSets
set_option Elab.async false
set_option linter.all false
set_option maxRecDepth 100000
set_option maxHeartbeats 4100000
/-! M1: walks, the shortlex order, breadth first search over plain lists. -/
namespace Sf

/-! ### lists -/
theorem lt_of_nodup : ∀ (n : Nat) (l : List Nat), l.Nodup → (∀ x ∈ l, x < n) → l.length ≤ n
  | 0, l, _, h => by
    cases l with
    | nil => simp
    | cons a r => exact absurd (h a (by simp)) (by omega)
  | n + 1, l, hn, h => by
    by_cases e : n ∈ l
    · have p := List.perm_cons_erase e
      have h2 : (l.erase n).Nodup := hn.erase n
      have h3 : ∀ x ∈ l.erase n, x < n := fun x hx => by
        have := (List.Nodup.mem_erase_iff hn).mp hx
        have := h x this.2
        omega
      have := lt_of_nodup n _ h2 h3
      have := p.length_eq
      simp at this
      omega
    · have := lt_of_nodup n l hn (fun x hx => by
        have := h x hx
        have : x ≠ n := fun z => e (z ▸ hx)
        omega)
      omega

/-! ### order -/
def lex : List Nat → List Nat → Prop
  | a :: l, b :: m => a < b ∨ (a = b ∧ lex l m)
  | _, _ => False
def sl (w w' : List Nat) : Prop := w.length < w'.length ∨ (w.length = w'.length ∧ lex w w')
def le (w w' : List Nat) : Prop := w = w' ∨ sl w w'
theorem lex_irr : ∀ w, ¬ lex w w
  | [], h => h
  | a :: l, h => by
    rcases h with h | h
    · omega
    · exact lex_irr l h.2
theorem lex_trans : ∀ {a b c : List Nat}, lex a b → lex b c → lex a c
  | [], _, _, h, _ => h.elim
  | _ :: _, [], _, h, _ => h.elim
  | _ :: _, _ :: _, [], _, h => h.elim
  | x :: a, y :: b, z :: c, h, k => by
    simp only [lex] at h k ⊢
    rcases h with h | h <;> rcases k with k | k
    · left; omega
    · left; omega
    · left; omega
    · right; exact ⟨by omega, lex_trans h.2 k.2⟩
theorem lex_app : ∀ {a b : List Nat}, lex a b → ∀ c d, lex (a ++ c) (b ++ d)
  | [], _, h, _, _ => h.elim
  | _ :: _, [], h, _, _ => h.elim
  | x :: a, y :: b, h, c, d => by
    simp only [lex, List.cons_append] at h ⊢
    rcases h with h | h
    · exact .inl h
    · exact .inr ⟨h.1, lex_app h.2 c d⟩
theorem lex_same : ∀ (a : List Nat) {c d : List Nat}, lex c d → lex (a ++ c) (a ++ d)
  | [], _, _, h => h
  | _ :: a, _, _, h => .inr ⟨rfl, lex_same a h⟩
theorem lex_tot : ∀ {a b : List Nat}, a.length = b.length → lex a b ∨ a = b ∨ lex b a
  | [], [], _ => .inr (.inl rfl)
  | [], _ :: _, h => by simp at h
  | _ :: _, [], h => by simp at h
  | x :: a, y :: b, h => by
    have := lex_tot (a := a) (b := b) (by simpa using h)
    simp only [lex, List.cons.injEq]
    rcases Nat.lt_trichotomy x y with q | q | q
    · exact .inl (.inl q)
    · rcases this with r | r | r
      · exact .inl (.inr ⟨q, r⟩)
      · exact .inr (.inl ⟨q, r⟩)
      · exact .inr (.inr (.inr ⟨q.symm, r⟩))
    · exact .inr (.inr (.inl q))
theorem sl_irr (w : List Nat) : ¬ sl w w := fun h => h.elim (by omega) fun q => lex_irr w q.2
theorem sl_trans {a b c : List Nat} (h : sl a b) (k : sl b c) : sl a c := by
  unfold sl at *
  rcases h with h | h <;> rcases k with k | k
  · left; omega
  · left; omega
  · left; omega
  · right; exact ⟨by omega, lex_trans h.2 k.2⟩
theorem le_refl (a : List Nat) : le a a := .inl rfl
theorem le_of {a b : List Nat} (h : sl a b) : le a b := .inr h
theorem le_trans {a b c : List Nat} (h : le a b) (k : le b c) : le a c := by
  rcases h with rfl | h
  · exact k
  · rcases k with rfl | k
    · exact .inr h
    · exact .inr (sl_trans h k)
theorem sl_of_le_sl {a b c : List Nat} (h : le a b) (k : sl b c) : sl a c := by
  rcases h with rfl | h
  · exact k
  · exact sl_trans h k
theorem sl_of_sl_le {a b c : List Nat} (h : sl a b) (k : le b c) : sl a c := by
  rcases k with rfl | k
  · exact h
  · exact sl_trans h k
theorem le_anti {a b : List Nat} (h : le a b) (k : le b a) : a = b := by
  rcases h with h | h
  · exact h
  · exact absurd (sl_of_sl_le h k) (sl_irr a)
theorem le_tot (a b : List Nat) : le a b ∨ sl b a := by
  rcases Nat.lt_trichotomy a.length b.length with h | h | h
  · exact .inl (.inr (.inl h))
  · rcases lex_tot h with q | q | q
    · exact .inl (.inr (.inr ⟨h, q⟩))
    · exact .inl (.inl q)
    · exact .inr (.inr ⟨h.symm, q⟩)
  · exact .inr (.inl h)
theorem sl_snoc {a b : List Nat} (h : sl a b) (v v' : Nat) : sl (a ++ [v]) (b ++ [v']) := by
  unfold sl at *
  rcases h with h | h
  · left; simp; omega
  · right; exact ⟨by simp; omega, lex_app h.2 _ _⟩
theorem le_snoc {a b : List Nat} (h : le a b) (v : Nat) : le (a ++ [v]) (b ++ [v]) := by
  rcases h with rfl | h
  · exact .inl rfl
  · exact .inr (sl_snoc h v v)
theorem sl_grow (a : List Nat) (v : Nat) : sl a (a ++ [v]) := .inl (by simp)
theorem sl_last (a : List Nat) {v v' : Nat} (h : v < v') : sl (a ++ [v]) (a ++ [v']) := .inr ⟨by simp, lex_same a (.inl h)⟩
theorem le_len {a b : List Nat} (h : le a b) : a.length ≤ b.length := by
  rcases h with rfl | h | h <;> omega

/-! ### walks -/
/-- the last number of a walk -/
def lst (w : List Nat) : Nat := w.getLastD 0
theorem lst_snoc (w : List Nat) (v : Nat) : lst (w ++ [v]) = v := by simp [lst]
theorem lst_cons (a b : Nat) (w : List Nat) : lst (a :: b :: w) = lst (b :: w) := by simp [lst, List.getLastD]
theorem lst_one (a : Nat) : lst [a] = a := rfl
/-- a walk from f -/
inductive Wk (nx : Nat → List Nat) (f : Nat) : List Nat → Prop
  | one : Wk nx f [f]
  | snoc {w : List Nat} {v : Nat} : Wk nx f w → v ∈ nx (lst w) → Wk nx f (w ++ [v])
theorem Wk.ne {nx : Nat → List Nat} {f : Nat} {w : List Nat} (h : Wk nx f w) : w ≠ [] := by
  cases h <;> simp
theorem Wk.cons {nx : Nat → List Nat} {f g : Nat} {w : List Nat} (h : Wk nx g w) (hg : g ∈ nx f) : Wk nx f (f :: w) := by
  induction h with
  | one => exact Wk.snoc (w := [f]) .one hg
  | @snoc w v h hv ih =>
    have e : f :: (w ++ [v]) = (f :: w) ++ [v] := rfl
    rw [e]
    refine .snoc ih ?_
    cases w with
    | nil => exact absurd rfl h.ne
    | cons b r => rw [lst_cons]; exact hv
theorem Wk.uncons {nx : Nat → List Nat} {f : Nat} {w : List Nat} (h : Wk nx f w) : w = [f] ∨ ∃ g r, w = f :: r ∧ g ∈ nx f ∧ Wk nx g r ∧ lst w = lst r := by
  induction h with
  | one => exact .inl rfl
  | @snoc w v h hv ih =>
    right
    rcases ih with rfl | ⟨g, r, rfl, hg, hr, hl⟩
    · exact ⟨v, [v], rfl, hv, .one, rfl⟩
    · refine ⟨g, r ++ [v], rfl, hg, .snoc hr (hl ▸ hv), ?_⟩
      rw [lst_snoc, lst_snoc]
theorem Wk.trans {nx : Nat → List Nat} {f : Nat} {w : List Nat} (h : Wk nx f w) {w' : List Nat} (h' : Wk nx (lst w) w') : ∃ w2, Wk nx f w2 ∧ lst w2 = lst w' := by
  induction h' with
  | one => exact ⟨w, h, rfl⟩
  | @snoc u v _ hv ih =>
    obtain ⟨w2, h2, e⟩ := ih
    exact ⟨w2 ++ [v], .snoc h2 (e ▸ hv), by rw [lst_snoc, lst_snoc]⟩
theorem Wk.mono {nx nx' : Nat → List Nat} {f : Nat} {w : List Nat} (m : ∀ a, ∀ b ∈ nx a, b ∈ nx' a) (h : Wk nx f w) : Wk nx' f w := by
  induction h with
  | one => exact .one
  | snoc _ hv ih => exact .snoc ih (m _ _ hv)
def Rch (nx : Nat → List Nat) (f g : Nat) : Prop := ∃ w, Wk nx f w ∧ lst w = g
theorem Rch.refl {nx : Nat → List Nat} {f : Nat} : Rch nx f f := ⟨[f], .one, rfl⟩
theorem Rch.step {nx : Nat → List Nat} {f g h : Nat} (r : Rch nx f g) (e : h ∈ nx g) : Rch nx f h := by
  obtain ⟨w, k, rfl⟩ := r
  exact ⟨w ++ [h], .snoc k e, lst_snoc _ _⟩
theorem Rch.trans {nx : Nat → List Nat} {f g h : Nat} (r : Rch nx f g) (s : Rch nx g h) : Rch nx f h := by
  obtain ⟨w, k, rfl⟩ := r
  obtain ⟨w', k', rfl⟩ := s
  obtain ⟨w2, h2, e⟩ := k.trans k'
  exact ⟨w2, h2, e⟩
theorem Rch.mono {nx nx' : Nat → List Nat} {f g : Nat} (m : ∀ a, ∀ b ∈ nx a, b ∈ nx' a) (r : Rch nx f g) : Rch nx' f g := by
  obtain ⟨w, k, e⟩ := r
  exact ⟨w, k.mono m, e⟩

/-! ### breadth first -/
structure Graph (nx : Nat → List Nat) : Prop where
  lt : ∀ a, ∀ b ∈ nx a, b < 10
  up : ∀ a, (nx a).Pairwise (· < ·)
/-- the paths found, and of these the ones gone through -/
structure Bfs (nx : Nat → List Nat) (f : Nat) (dn td : List (List Nat)) : Prop where
  fst : [f] ∈ dn ++ td
  wk : ∀ w ∈ dn ++ td, Wk nx f w
  nd : ((dn ++ td).map lst).Nodup
  up : (dn ++ td).Pairwise sl
  par : ∀ w ∈ dn ++ td, w = [f] ∨ ∃ u ∈ dn, ∃ v, v ∈ nx (lst u) ∧ w = u ++ [v]
  cl : ∀ u ∈ dn, ∀ v ∈ nx (lst u), ∃ w ∈ dn ++ td, lst w = v ∧ le w (u ++ [v])
theorem Bfs.start (nx : Nat → List Nat) (f : Nat) : Bfs nx f [] [[f]] := by
  refine ⟨by simp, ?_, by simp, by simp, ?_, by simp⟩
  · intro w hw
    simp at hw
    subst hw
    exact .one
  · intro w hw
    simp at hw
    exact .inl hw
/-- while a path's own imports vs are gone through -/
structure BfsIn (nx : Nat → List Nat) (f : Nat) (dn : List (List Nat)) (u : List Nat) (td : List (List Nat)) (vs : List Nat) : Prop where
  fst : [f] ∈ dn ++ u :: td
  wk : ∀ w ∈ dn ++ u :: td, Wk nx f w
  nd : ((dn ++ u :: td).map lst).Nodup
  up : (dn ++ u :: td).Pairwise sl
  par : ∀ w ∈ dn ++ u :: td, w = [f] ∨ (∃ u' ∈ dn, ∃ v, v ∈ nx (lst u') ∧ w = u' ++ [v]) ∨ ∃ v ∈ vs, w = u ++ [v]
  cl : ∀ u' ∈ dn, ∀ v ∈ nx (lst u'), ∃ w ∈ dn ++ u :: td, lst w = v ∧ le w (u' ++ [v])
  clu : ∀ v ∈ vs, ∃ w ∈ dn ++ u :: td, lst w = v ∧ le w (u ++ [v])
theorem Bfs.into {nx : Nat → List Nat} {f : Nat} {dn td : List (List Nat)} {u : List Nat} (b : Bfs nx f dn (u :: td)) : BfsIn nx f dn u td [] :=
  ⟨b.fst, b.wk, b.nd, b.up, fun w hw => (b.par w hw).imp_right .inl, b.cl, by simp⟩
theorem BfsIn.out {nx : Nat → List Nat} {f : Nat} {dn td : List (List Nat)} {u : List Nat} (b : BfsIn nx f dn u td (nx (lst u))) : Bfs nx f (dn ++ [u]) td := by
  have e : (dn ++ [u]) ++ td = dn ++ u :: td := by simp
  refine ⟨by rw [e]; exact b.fst, by rw [e]; exact b.wk, by rw [e]; exact b.nd, by rw [e]; exact b.up, ?_, ?_⟩
  · rw [e]
    intro w hw
    rcases b.par w hw with h | ⟨u', h1, v, h2, h3⟩ | ⟨v, h1, h2⟩
    · exact .inl h
    · exact .inr ⟨u', by simp [h1], v, h2, h3⟩
    · exact .inr ⟨u, by simp, v, h1, h2⟩
  · rw [e]
    intro u' hu' v hv
    rcases List.mem_append.mp hu' with h | h
    · exact b.cl u' h v hv
    · simp at h
      subst h
      exact b.clu v hv
/-- the number is known already -/
theorem BfsIn.skip {nx : Nat → List Nat} {f v : Nat} {dn td : List (List Nat)} {u : List Nat} {vs : List Nat} (b : BfsIn nx f dn u td vs) (hk : v ∈ (dn ++ u :: td).map lst) : BfsIn nx f dn u td (vs ++ [v]) := by
  refine ⟨b.fst, b.wk, b.nd, b.up, ?_, b.cl, ?_⟩
  · intro w hw
    rcases b.par w hw with h | h | ⟨v', h1, h2⟩
    · exact .inl h
    · exact .inr (.inl h)
    · exact .inr (.inr ⟨v', by simp [h1], h2⟩)
  · intro v' hv'
    rcases List.mem_append.mp hv' with h | h
    · exact b.clu v' h
    · simp at h
      subst h
      obtain ⟨w, hw, e⟩ := List.mem_map.mp hk
      refine ⟨w, hw, e, ?_⟩
      -- w is not above u ++ [v]
      have uu : ∀ u' ∈ dn, sl u' u := fun u' h' => by
        have := List.pairwise_append.mp b.up
        exact this.2.2 u' h' u (by simp)
      rcases b.par w hw with h | ⟨u', h1, v', h2, h3⟩ | ⟨v', h1, h2⟩
      · subst h
        have := (b.wk u (by simp)).ne
        refine .inr (.inl ?_)
        cases u with
        | nil => exact absurd rfl this
        | cons => simp
      · subst h3
        rw [lst_snoc] at e
        subst e
        exact .inr (sl_snoc (uu u' h1) _ _)
      · subst h2
        rw [lst_snoc] at e
        subst e
        exact .inl rfl
/-- a new number -/
theorem BfsIn.more {nx : Nat → List Nat} {f v : Nat} {dn td : List (List Nat)} {u : List Nat} {vs : List Nat} (b : BfsIn nx f dn u td vs) (hk : v ∉ (dn ++ u :: td).map lst) (hv : v ∈ nx (lst u)) (hup : ∀ v' ∈ vs, v' < v) : BfsIn nx f dn u (td ++ [u ++ [v]]) (vs ++ [v]) := by
  have e : dn ++ u :: (td ++ [u ++ [v]]) = (dn ++ u :: td) ++ [u ++ [v]] := by simp
  have uu : ∀ u' ∈ dn, sl u' u := fun u' h' => by
    have := List.pairwise_append.mp b.up
    exact this.2.2 u' h' u (by simp)
  have une := (b.wk u (by simp)).ne
  have upn : ∀ w ∈ dn ++ u :: td, sl w (u ++ [v]) := by
    intro w hw
    rcases b.par w hw with h | ⟨u', h1, v', h2, h3⟩ | ⟨v', h1, h2⟩
    · subst h
      refine .inl ?_
      cases u with
      | nil => exact absurd rfl une
      | cons => simp
    · subst h3
      exact sl_snoc (uu u' h1) _ _
    · subst h2
      exact sl_last _ (hup v' h1)
  refine ⟨?_, ?_, ?_, ?_, ?_, ?_, ?_⟩
  · rw [e]; exact List.mem_append_left _ b.fst
  · rw [e]
    intro w hw
    rcases List.mem_append.mp hw with h | h
    · exact b.wk w h
    · simp at h
      subst h
      exact .snoc (b.wk u (by simp)) hv
  · rw [e, List.map_append, List.nodup_append]
    refine ⟨b.nd, by simp, ?_⟩
    intro a ha c hc
    simp [lst_snoc] at hc
    subst hc
    intro z
    exact hk (z ▸ ha)
  · rw [e, List.pairwise_append]
    refine ⟨b.up, by simp, ?_⟩
    intro w hw c hc
    simp at hc
    subst hc
    exact upn w hw
  · rw [e]
    intro w hw
    rcases List.mem_append.mp hw with h | h
    · rcases b.par w h with h | h | ⟨v', h1, h2⟩
      · exact .inl h
      · exact .inr (.inl h)
      · exact .inr (.inr ⟨v', by simp [h1], h2⟩)
    · simp at h
      exact .inr (.inr ⟨v, by simp, h⟩)
  · rw [e]
    intro u' hu' v' hv'
    obtain ⟨w, h1, h2⟩ := b.cl u' hu' v' hv'
    exact ⟨w, List.mem_append_left _ h1, h2⟩
  · rw [e]
    intro v' hv'
    rcases List.mem_append.mp hv' with h | h
    · obtain ⟨w, h1, h2⟩ := b.clu v' h
      exact ⟨w, List.mem_append_left _ h1, h2⟩
    · simp at h
      subst h
      exact ⟨u ++ [v'], by simp, lst_snoc _ _, le_refl _⟩
/-- at the end: the first shortest walks -/
theorem Bfs.best {nx : Nat → List Nat} {f : Nat} {dn : List (List Nat)} (b : Bfs nx f dn []) {w : List Nat} (hw : Wk nx f w) : ∃ w' ∈ dn, lst w' = lst w ∧ le w' w := by
  have cl := b.cl
  have fs := b.fst
  rw [List.append_nil] at cl fs
  induction hw with
  | one => exact ⟨[f], fs, rfl, le_refl _⟩
  | @snoc w v h hv ih =>
    obtain ⟨w', h1, h2, h3⟩ := ih
    obtain ⟨w2, k1, k2, k3⟩ := cl w' h1 v (h2 ▸ hv)
    exact ⟨w2, k1, by rw [k2, lst_snoc], le_trans k3 (le_snoc h3 v)⟩
theorem Bfs.size {nx : Nat → List Nat} {f : Nat} {dn td : List (List Nat)} (g : Graph nx) (hf : f < 10) (b : Bfs nx f dn td) : (dn ++ td).length ≤ 10 := by
  have := lt_of_nodup 10 _ b.nd (fun x hx => by
    obtain ⟨w, hw, e⟩ := List.mem_map.mp hx
    have k := b.wk w hw
    cases k with
    | one => rw [← e]; exact hf
    | snoc _ hv => rw [← e, lst_snoc]; exact g.lt _ _ hv)
  simpa using this
theorem Bfs.len {nx : Nat → List Nat} {f : Nat} {dn td : List (List Nat)} (b : Bfs nx f dn td) : ∀ (n : Nat) (pre : List (List Nat)) (w : List Nat) (post : List (List Nat)), pre.length = n → dn ++ td = pre ++ w :: post → w.length ≤ n + 1 := by
  intro n
  induction n using Nat.strongRecOn with
  | ind n ih =>
    intro pre w post hn e
    rcases b.par w (by rw [e]; simp) with h | ⟨u, h1, v, h2, h3⟩
    · subst h; simp
    · have hu : u ∈ dn ++ td := List.mem_append_left _ h1
      have up := b.up
      rw [e] at hu up
      have hsl : sl u w := by rw [h3]; exact sl_grow u v
      have up2 := List.pairwise_append.mp up
      have hpre : u ∈ pre := by
        rcases List.mem_append.mp hu with h | h
        · exact h
        · exfalso
          rcases List.mem_cons.mp h with h | h
          · rw [h] at hsl; exact sl_irr _ hsl
          · have := (List.pairwise_cons.mp up2.2.1).1 u h
            exact sl_irr _ (sl_trans this hsl)
      obtain ⟨p1, p2, ep⟩ := List.append_of_mem hpre
      have := ih p1.length (by rw [← hn, ep]; simp) p1 u (p2 ++ w :: post) rfl (by rw [e, ep]; simp)
      rw [h3, List.length_append]
      have : pre.length = p1.length + 1 + p2.length := by rw [ep]; simp; omega
      simp
      omega
theorem Bfs.short {nx : Nat → List Nat} {f : Nat} {dn td : List (List Nat)} (g : Graph nx) (hf : f < 10) (b : Bfs nx f dn td) {w : List Nat} (hw : w ∈ dn ++ td) : w.length ≤ 10 := by
  have s := b.size g hf
  obtain ⟨p1, p2, e⟩ := List.append_of_mem hw
  have := b.len _ p1 w p2 rfl e
  rw [e] at s
  simp at s
  omega
/-- breadth first search comes to an end -/
theorem bfs_in {nx : Nat → List Nat} {f : Nat} {dn : List (List Nat)} {u : List Nat} (hup : (nx (lst u)).Pairwise (· < ·)) : ∀ (ws vs : List Nat) (td : List (List Nat)), nx (lst u) = vs ++ ws → BfsIn nx f dn u td vs → ∃ td', BfsIn nx f dn u td' (nx (lst u))
  | [], vs, td, e, b => ⟨td, by rw [e, List.append_nil]; exact b⟩
  | w :: ws, vs, td, e, b => by
    have e' : nx (lst u) = (vs ++ [w]) ++ ws := by rw [e]; simp
    by_cases hk : w ∈ (dn ++ u :: td).map lst
    · exact bfs_in hup ws (vs ++ [w]) td e' (b.skip hk)
    · have hup' := hup
      rw [e] at hup'
      exact bfs_in hup ws (vs ++ [w]) _ e' (b.more hk (by rw [e]; simp) fun v' hv' => (List.pairwise_append.mp hup').2.2 v' hv' w (by simp))
theorem bfs_ends {nx : Nat → List Nat} (g : Graph nx) {f : Nat} (hf : f < 10) : ∀ (m : Nat) (dn td : List (List Nat)), 10 - dn.length = m → Bfs nx f dn td → ∃ dn', Bfs nx f dn' []
  | m, dn, [], _, b => ⟨dn, b⟩
  | 0, dn, u :: td, hm, b => by
    have := b.size g hf
    simp at this
    omega
  | m + 1, dn, u :: td, hm, b => by
    obtain ⟨td', b'⟩ := bfs_in (g.up _) (nx (lst u)) [] td rfl b.into
    exact bfs_ends g hf m (dn ++ [u]) td' (by simp; omega) b'.out
theorem bfs_all {nx : Nat → List Nat} (g : Graph nx) {f : Nat} (hf : f < 10) : ∃ dn, Bfs nx f dn [] := bfs_ends g hf _ [] [[f]] rfl (Bfs.start nx f)
/-- a first shortest walk -/
def Best (nx : Nat → List Nat) (f g : Nat) (w : List Nat) : Prop := Wk nx f w ∧ lst w = g ∧ ∀ w', Wk nx f w' → lst w' = g → le w w'
theorem Best.one {nx : Nat → List Nat} {f g : Nat} {w w' : List Nat} (h : Best nx f g w) (h' : Best nx f g w') : w = w' := le_anti (h.2.2 w' h'.1 h'.2.1) (h'.2.2 w h.1 h.2.1)
theorem Bfs.isBest {nx : Nat → List Nat} {f : Nat} {dn : List (List Nat)} (b : Bfs nx f dn []) {w : List Nat} (hw : w ∈ dn) : Best nx f (lst w) w := by
  have wk := b.wk
  have nd := b.nd
  rw [List.append_nil] at wk nd
  refine ⟨wk w hw, rfl, fun w' h' e => ?_⟩
  obtain ⟨w2, h1, h2, h3⟩ := b.best h'
  have : w2 = w := by
    rw [e] at h2
    obtain ⟨i, hi, e1⟩ := List.mem_iff_getElem.mp h1
    obtain ⟨j, hj, e2⟩ := List.mem_iff_getElem.mp hw
    have : i = j := (List.getElem_inj (xs := dn.map lst) (h₀ := by simpa using hi) (h₁ := by simpa using hj) nd).mp (by simp [e1, e2, h2])
    subst this
    rw [← e1, ← e2]
  rw [this] at h3
  exact h3
theorem Rch.best {nx : Nat → List Nat} (g : Graph nx) {f h : Nat} (hf : f < 10) (r : Rch nx f h) : ∃ w, Best nx f h w ∧ w.length ≤ 10 := by
  obtain ⟨dn, b⟩ := bfs_all g hf
  obtain ⟨w, hw, rfl⟩ := r
  obtain ⟨w', h1, h2, h3⟩ := b.best hw
  exact ⟨w', h2 ▸ b.isBest h1, b.short g hf (by rw [List.append_nil]; exact h1)⟩
end Sf
/-! M2: the specification's reachedFrom and path, by walks. -/
namespace Sf
open Vbjbaj

structure PWf (t : Nat) (p : Project) : Prop where
  len : p.length = 10
  ok : ∀ f x, fileAt p f = some x → isFile t x = true
  tk : t ≤ 20

theorem isRising_up : ∀ (l : List Nat), isRising l = true → l.Pairwise (· < ·)
  | [], _ => .nil
  | [a], _ => by simp
  | a :: b :: r, h => by
    simp only [isRising, Bool.and_eq_true, decide_eq_true_eq] at h
    have ih := isRising_up (b :: r) h.2
    rw [List.pairwise_cons]
    refine ⟨fun x hx => ?_, ih⟩
    rcases List.mem_cons.mp hx with e | e
    · omega
    · have := (List.pairwise_cons.mp ih).1 x e
      omega
theorem up_isRising : ∀ (l : List Nat), l.Pairwise (· < ·) → isRising l = true
  | [], _ => rfl
  | [a], _ => rfl
  | a :: b :: r, h => by
    simp only [isRising, Bool.and_eq_true, decide_eq_true_eq]
    rw [List.pairwise_cons] at h
    exact ⟨h.1 b (by simp), up_isRising _ h.2⟩
theorem eq_of_up : ∀ (l m : List Nat), l.Pairwise (· < ·) → m.Pairwise (· < ·) → (∀ x, x ∈ l ↔ x ∈ m) → l = m
  | [], [], _, _, _ => rfl
  | [], b :: m, _, _, h => absurd ((h b).mpr (by simp)) (by simp)
  | a :: l, [], _, _, h => absurd ((h a).mp (by simp)) (by simp)
  | a :: l, b :: m, hl, hm, h => by
    rw [List.pairwise_cons] at hl hm
    have e : a = b := by
      have h1 := (h a).mp (by simp)
      have h2 := (h b).mpr (by simp)
      rcases List.mem_cons.mp h1 with h1 | h1
      · exact h1
      · rcases List.mem_cons.mp h2 with h2 | h2
        · exact h2.symm
        · have := hl.1 b h2
          have := hm.1 a h1
          omega
    subst e
    rw [eq_of_up l m hl.2 hm.2 fun x => ?_]
    constructor
    · intro hx
      have := (h x).mp (by simp [hx])
      rcases List.mem_cons.mp this with q | q
      · have := hl.1 x hx
        omega
      · exact q
    · intro hx
      have := (h x).mpr (by simp [hx])
      rcases List.mem_cons.mp this with q | q
      · have := hm.1 x hx
        omega
      · exact q
theorem range_up (n : Nat) : (List.range n).Pairwise (· < ·) := List.pairwise_lt_range

theorem importsOf_some {p : Project} {f : Nat} {x : File} (h : fileAt p f = some x) : importsOf p f = x.imports := by
  simp [importsOf, h]
theorem importsOf_none {p : Project} {f : Nat} (h : fileAt p f = none) : importsOf p f = [] := by
  simp [importsOf, h]
theorem isFile_imports {t : Nat} {x : File} (h : isFile t x = true) : x.imports.Pairwise (· < ·) ∧ ∀ b ∈ x.imports, b < 10 := by
  simp only [isFile, Bool.and_eq_true] at h
  refine ⟨isRising_up _ h.1, fun b hb => ?_⟩
  have := List.all_eq_true.mp h.2.1 b hb
  exact of_decide_eq_true this
theorem PWf.graph {t : Nat} {p : Project} (w : PWf t p) : Graph (importsOf p) := by
  refine ⟨fun a b hb => ?_, fun a => ?_⟩
  · cases e : fileAt p a with
    | none => rw [importsOf_none e] at hb; simp at hb
    | some x => rw [importsOf_some e] at hb; exact (isFile_imports (w.ok a x e)).2 b hb
  · cases e : fileAt p a with
    | none => rw [importsOf_none e]; simp
    | some x => rw [importsOf_some e]; exact (isFile_imports (w.ok a x e)).1

/-! ### reachedFrom -/
theorem mem_seenRound {p : Project} {l : List Nat} {g : Nat} : g ∈ seenRound p l ↔ g < 10 ∧ (g ∈ l ∨ ∃ f ∈ l, g ∈ importsOf p f) := by
  simp [seenRound, maxFiles]
theorem seenRounds_rch {p : Project} {f : Nat} : ∀ (n : Nat) (l : List Nat), (∀ x ∈ l, Rch (importsOf p) f x) → ∀ x ∈ seenRounds p n l, Rch (importsOf p) f x
  | 0, _, h, x, hx => h x hx
  | n + 1, l, h, x, hx => by
    refine seenRounds_rch n (seenRound p l) (fun y hy => ?_) x hx
    rcases (mem_seenRound.mp hy).2 with q | ⟨z, q1, q2⟩
    · exact h y q
    · exact (h z q1).step q2
theorem seenRounds_all {p : Project} (G : Graph (importsOf p)) {f : Nat} (hf : f < 10) : ∀ (n m : Nat) (l : List Nat), (∀ w, Wk (importsOf p) f w → w.length ≤ m + 1 → lst w ∈ l) → ∀ w, Wk (importsOf p) f w → w.length ≤ m + n + 1 → lst w ∈ seenRounds p n l
  | 0, _, _, h, w, hw, hl => h w hw hl
  | n + 1, m, l, h, w, hw, hl => by
    refine seenRounds_all G hf n (m + 1) (seenRound p l) (fun u hu hul => ?_) w hw (by omega)
    refine mem_seenRound.mpr ?_
    cases hu with
    | one => exact ⟨hf, .inl (h [f] .one (by simp))⟩
    | @snoc u v hu hv =>
      rw [lst_snoc]
      refine ⟨G.lt _ _ hv, .inr ⟨lst u, h u hu (by simp at hul; omega), hv⟩⟩
theorem mem_reached {p : Project} (G : Graph (importsOf p)) {f g : Nat} (hf : f < 10) : g ∈ reachedFrom p f ↔ Rch (importsOf p) f g := by
  constructor
  · exact fun h => seenRounds_rch _ _ (fun x hx => by simp at hx; subst hx; exact Rch.refl) g h
  · intro r
    obtain ⟨w, b, hl⟩ := r.best G hf
    have := seenRounds_all G hf maxFiles 0 [f] (fun w hw hl => by
      cases hw with
      | one => simp [lst]
      | @snoc u v hu hv =>
        have := hu.ne
        cases u with
        | nil => exact absurd rfl this
        | cons => simp at hl) w b.1 (by simp [maxFiles]; omega)
    rw [b.2.1] at this
    exact this
theorem reached_up {p : Project} {f : Nat} : (reachedFrom p f).Pairwise (· < ·) := by
  have : ∀ (n : Nat) (l : List Nat), (seenRounds p (n + 1) l).Pairwise (· < ·) := by
    intro n
    induction n with
    | zero => intro l; show (seenRound p l).Pairwise (· < ·); exact List.Pairwise.filter _ (range_up maxFiles)
    | succ n ih => intro l; exact ih (seenRound p l)
  exact this 9 [f]
theorem reached_lt {p : Project} {f g : Nat} (h : g ∈ reachedFrom p f) : g < 10 := by
  have : ∀ (n : Nat) (l : List Nat), ∀ g ∈ seenRounds p (n + 1) l, g < 10 := by
    intro n
    induction n with
    | zero => intro l g h; exact (mem_seenRound.mp h).1
    | succ n ih => intro l; exact ih (seenRound p l)
  exact this 9 [f] g h

/-! ### path -/
/-- the distance -/
def Dst (nx : Nat → List Nat) (f g k : Nat) : Prop := (∃ w, Wk nx f w ∧ lst w = g ∧ w.length = k + 1) ∧ ∀ w, Wk nx f w → lst w = g → k + 1 ≤ w.length
theorem Dst.uniq {nx : Nat → List Nat} {f g k k' : Nat} (h : Dst nx f g k) (h' : Dst nx f g k') : k = k' := by
  obtain ⟨w, a, b, c⟩ := h.1
  obtain ⟨w', a', b', c'⟩ := h'.1
  have := h.2 w' a' b'
  have := h'.2 w a b
  omega
theorem Dst.of_walk {nx : Nat → List Nat} {f g : Nat} : ∀ (n : Nat) (w : List Nat), Wk nx f w → lst w = g → w.length ≤ n + 1 → ∃ k, k ≤ n ∧ Dst nx f g k := by
  intro n
  induction n with
  | zero =>
    intro w hw e hl
    refine ⟨0, Nat.le_refl _, ⟨w, hw, e, ?_⟩, fun w' h' _ => ?_⟩
    · have := hw.ne
      cases w with
      | nil => exact absurd rfl this
      | cons => simp at hl ⊢; exact hl
    · have := h'.ne
      cases w' with
      | nil => exact absurd rfl this
      | cons => simp
  | succ n ih =>
    intro w hw e hl
    by_cases h : ∃ w', Wk nx f w' ∧ lst w' = g ∧ w'.length ≤ n + 1
    · obtain ⟨w', a, b, c⟩ := h
      obtain ⟨k, hk, d⟩ := ih w' a b c
      exact ⟨k, by omega, d⟩
    · have hm : ∀ w', Wk nx f w' → lst w' = g → n + 1 + 1 ≤ w'.length := fun w' a b => by
        have : ¬ w'.length ≤ n + 1 := fun c => h ⟨w', a, b, c⟩
        omega
      exact ⟨n + 1, Nat.le_refl _, ⟨w, hw, e, Nat.le_antisymm hl (hm w hw e)⟩, hm⟩
theorem Dst.zero {nx : Nat → List Nat} {f g : Nat} : Dst nx f g 0 ↔ f = g := by
  constructor
  · rintro ⟨⟨w, a, b, c⟩, _⟩
    cases a with
    | one => exact b
    | @snoc u v hu hv =>
      have := hu.ne
      cases u with
      | nil => exact absurd rfl this
      | cons => simp at c
  · rintro rfl
    refine ⟨⟨[f], .one, rfl, rfl⟩, fun w hw _ => ?_⟩
    have := hw.ne
    cases w with
    | nil => exact absurd rfl this
    | cons => simp
/-- one step nearer -/
theorem Dst.next {nx : Nat → List Nat} {f g k : Nat} {w : List Nat} (h : Dst nx f g (k + 1)) (hw : Wk nx f w) (e : lst w = g) (hl : w.length = k + 1 + 1) : ∃ a r, w = f :: r ∧ a ∈ nx f ∧ Wk nx a r ∧ lst r = g ∧ r.length = k + 1 ∧ Dst nx a g k := by
  rcases hw.uncons with z | ⟨a, r, z, ha, hr, hlr⟩
  · subst z; simp at hl
  · refine ⟨a, r, z, ha, hr, hlr ▸ e, by subst z; simpa using hl, ⟨r, hr, hlr ▸ e, by subst z; simpa using hl⟩, fun w' h' e' => ?_⟩
    have := h.2 (f :: w') (h'.cons ha) (by
      have := h'.ne
      cases w' with
      | nil => exact absurd rfl this
      | cons b q => rw [lst_cons]; exact e')
    simp at this
    omega
def SInv (nx : Nat → List Nat) (g m : Nat) (l : List (Option Nat)) : Prop := ∀ f, f < 10 → ∀ k, l.getD f none = some k ↔ (k ≤ m ∧ Dst nx f g k)
theorem getD_map_range {α : Type} (h : Nat → α) (d : α) (f : Nat) (hf : f < 10) : ((List.range maxFiles).map h).getD f d = h f := by
  have : f < maxFiles := hf
  simp [List.getD, List.getElem?_range this]
theorem SInv.start {nx : Nat → List Nat} {g : Nat} : SInv nx g 0 ((List.range maxFiles).map fun f => if f = g then some 0 else none) := by
  intro f hf k
  rw [getD_map_range _ _ f hf]
  constructor
  · intro h
    split at h
    · simp at h
      subst h
      exact ⟨Nat.le_refl _, Dst.zero.mpr ‹_›⟩
    · simp at h
  · rintro ⟨hk, d⟩
    have : k = 0 := by omega
    subst this
    rw [if_pos (Dst.zero.mp d)]
theorem SInv.round {p : Project} (G : Graph (importsOf p)) {g m : Nat} {l : List (Option Nat)} (s : SInv (importsOf p) g m l) : SInv (importsOf p) g (m + 1) (stepsRound p l m) := by
  intro f hf k
  unfold stepsRound
  rw [getD_map_range _ _ f hf]
  cases e : l.getD f none with
  | some n =>
    obtain ⟨hn, d⟩ := (s f hf n).mp e
    constructor
    · intro h
      simp at h
      subst h
      exact ⟨by omega, d⟩
    · rintro ⟨_, d'⟩
      rw [d.uniq d']
  | none =>
    have no : ∀ k, k ≤ m → ¬ Dst (importsOf p) f g k := fun k hk d => by
      rw [(s f hf k).mpr ⟨hk, d⟩] at e
      cases e
    have hany : (((importsOf p f).any fun g' => l.getD g' none == some m) = true) ↔ ∃ a ∈ importsOf p f, Dst (importsOf p) a g m := by
      rw [List.any_eq_true]
      constructor
      · rintro ⟨a, ha, q⟩
        exact ⟨a, ha, ((s a (G.lt _ _ ha) m).mp (by simpa using q)).2⟩
      · rintro ⟨a, ha, d⟩
        exact ⟨a, ha, by simpa using (s a (G.lt _ _ ha) m).mpr ⟨Nat.le_refl _, d⟩⟩
    show (if ((importsOf p f).any fun g' => l.getD g' none == some m) = true then some (m + 1) else none) = some k ↔ _
    constructor
    · intro h
      split at h
      · rename_i c
        simp at h
        subst h
        obtain ⟨a, ha, ⟨w, h1, h2, h3⟩, _⟩ := hany.mp c
        refine ⟨Nat.le_refl _, ⟨f :: w, h1.cons ha, ?_, by simp [h3]⟩, fun w' h' e' => ?_⟩
        · have := h1.ne
          cases w with
          | nil => exact absurd rfl this
          | cons b q => rw [lst_cons]; exact h2
        · by_cases c : w'.length ≤ m + 1
          · obtain ⟨k, hk, d⟩ := Dst.of_walk m w' h' e' c
            exact absurd d (no k hk)
          · omega
      · cases h
    · rintro ⟨hk, d⟩
      have : k = m + 1 := by
        by_cases c : k ≤ m
        · exact absurd d (no k c)
        · omega
      subst this
      obtain ⟨w, h1, h2, h3⟩ := d.1
      obtain ⟨a, r, _, ha, _, _, _, d'⟩ := d.next h1 h2 h3
      rw [if_pos (hany.mpr ⟨a, ha, d'⟩)]
theorem foldl_range_inv {α : Type} (st : α → Nat → α) (P : Nat → α → Prop) : ∀ (n : Nat) (a : α), P 0 a → (∀ m x, P m x → P (m + 1) (st x m)) → P n ((List.range n).foldl st a) := by
  intro n a h0 hs
  induction n with
  | zero => exact h0
  | succ n ih =>
    rw [List.range_succ, List.foldl_append]
    exact hs _ _ ih
theorem stepsTo_inv {p : Project} (G : Graph (importsOf p)) (g : Nat) : SInv (importsOf p) g 10 (stepsTo p g) :=
  foldl_range_inv (stepsRound p) (SInv (importsOf p) g) 10 _ SInv.start fun _ _ s => s.round G
theorem find_up {P : Nat → Bool} : ∀ {l : List Nat} {a : Nat}, l.Pairwise (· < ·) → l.find? P = some a → ∀ b ∈ l, P b = true → a ≤ b
  | c :: l, a, h, e, b, hb, q => by
    rw [List.pairwise_cons] at h
    rw [List.find?_cons] at e
    split at e
    · simp at e
      subst e
      rcases List.mem_cons.mp hb with z | z
      · omega
      · exact Nat.le_of_lt (h.1 b z)
    · rcases List.mem_cons.mp hb with z | z
      · subst z
        simp_all
      · exact find_up h.2 e b z q
theorem pathFrom_best {p : Project} (G : Graph (importsOf p)) {g : Nat} {l : List (Option Nat)} (s : SInv (importsOf p) g 10 l) : ∀ (k f : Nat), f < 10 → k ≤ 10 → Dst (importsOf p) f g k →
    Wk (importsOf p) f (pathFrom p l k f) ∧ lst (pathFrom p l k f) = g ∧ (pathFrom p l k f).length = k + 1 ∧ ∀ w', Wk (importsOf p) f w' → lst w' = g → w'.length = k + 1 → pathFrom p l k f = w' ∨ lex (pathFrom p l k f) w'
  | 0, f, _, _, d => by
    have := Dst.zero.mp d
    subst this
    refine ⟨.one, rfl, rfl, fun w' h' _ hl => .inl ?_⟩
    cases h' with
    | one => rfl
    | @snoc u v hu hv =>
      have := hu.ne
      cases u with
      | nil => exact absurd rfl this
      | cons => simp at hl
  | k + 1, f, hf, hk, d => by
    obtain ⟨w, h1, h2, h3⟩ := d.1
    obtain ⟨a, r, _, ha, _, _, _, d'⟩ := d.next h1 h2 h3
    have la : l.getD a none = some k := (s a (G.lt _ _ ha) k).mpr ⟨by omega, d'⟩
    unfold pathFrom
    cases e : (importsOf p f).find? fun g => l.getD g none == some k with
    | none =>
      have := List.find?_eq_none.mp e a ha
      rw [la] at this
      simp at this
    | some b =>
      have hb : b ∈ importsOf p f := List.mem_of_find?_eq_some e
      have lb : l.getD b none = some k := by simpa using List.find?_some e
      have db := ((s b (G.lt _ _ hb) k).mp lb).2
      obtain ⟨q1, q2, q3, q4⟩ := pathFrom_best G s k b (G.lt _ _ hb) (by omega) db
      refine ⟨q1.cons hb, ?_, by simp [q3], fun w' h' e' hl' => ?_⟩
      · have := q1.ne
        show lst (f :: pathFrom p l k b) = g
        cases z : pathFrom p l k b with
        | nil => exact absurd z this
        | cons c q => rw [lst_cons, ← z]; exact q2
      · obtain ⟨c, r', e2, hc, hr', hlr', hlen, dc⟩ := d.next h' e' hl'
        have lc : l.getD c none = some k := (s c (G.lt _ _ hc) k).mpr ⟨by omega, dc⟩
        have bc := find_up (G.up f) e c hc (by simpa using lc)
        subst e2
        show f :: pathFrom p l k b = f :: r' ∨ lex (f :: pathFrom p l k b) (f :: r')
        rcases Nat.lt_or_eq_of_le bc with z | z
        · right
          refine .inr ⟨rfl, ?_⟩
          -- heads b < c
          rcases q1.uncons with y | ⟨_, _, y, _⟩ <;> rcases hr'.uncons with x | ⟨_, _, x, _⟩ <;> rw [y, x] <;> exact .inl z
        · subst z
          rcases q4 r' hr' hlr' hlen with y | y
          · left; rw [y]
          · right; exact .inr ⟨rfl, y⟩
theorem path_best {p : Project} (G : Graph (importsOf p)) {f g : Nat} (hf : f < 10) {w : List Nat} (h : path p f g = some w) : Best (importsOf p) f g w := by
  have s := stepsTo_inv G g
  unfold path at h
  cases e : (stepsTo p g).getD f none with
  | none => simp only [e] at h; cases h
  | some k =>
    simp only [e] at h
    have h : pathFrom p (stepsTo p g) k f = w := Option.some.inj h
    obtain ⟨hk, d⟩ := (s f hf k).mp e
    obtain ⟨q1, q2, q3, q4⟩ := pathFrom_best G s k f hf hk d
    rw [h] at q1 q2 q3 q4
    refine ⟨q1, q2, fun w' h' e' => ?_⟩
    have := d.2 w' h' e'
    rcases Nat.lt_or_eq_of_le this with z | z
    · exact .inr (.inl (by omega))
    · rcases q4 w' h' e' z.symm with y | y
      · exact .inl y
      · exact .inr (.inr ⟨by omega, y⟩)
theorem path_none {p : Project} (G : Graph (importsOf p)) {f g : Nat} (hf : f < 10) (h : path p f g = none) : ¬ Rch (importsOf p) f g := by
  intro r
  obtain ⟨w, b, hl⟩ := r.best G hf
  have s := stepsTo_inv G g
  obtain ⟨k, hk, d⟩ := Dst.of_walk 9 w b.1 b.2.1 (by omega)
  have := (s f hf k).mpr ⟨by omega, d⟩
  unfold path at h
  simp only [this] at h
  cases h
theorem path_iff {p : Project} (G : Graph (importsOf p)) {f g : Nat} (hf : f < 10) {w : List Nat} : path p f g = some w ↔ Best (importsOf p) f g w := by
  constructor
  · exact path_best G hf
  · intro b
    cases e : path p f g with
    | none => exact absurd ⟨w, b.1, b.2.1⟩ (path_none G hf e)
    | some w' => rw [(path_best G hf e).one b]
theorem path_isSome {p : Project} (G : Graph (importsOf p)) {f g : Nat} (hf : f < 10) : (path p f g).isSome = true ↔ Rch (importsOf p) f g := by
  constructor
  · intro h
    obtain ⟨w, e⟩ := Option.isSome_iff_exists.mp h
    have b := path_best G hf e
    exact ⟨w, b.1, b.2.1⟩
  · intro r
    obtain ⟨w, b, _⟩ := r.best G hf
    rw [(path_iff G hf).mpr b]
    rfl
/-- what breadth first search has found -/
theorem Bfs.path {p : Project} (G : Graph (importsOf p)) {f : Nat} (hf : f < 10) {dn : List (List Nat)} (b : Bfs (importsOf p) f dn []) {w : List Nat} (hw : w ∈ dn) : path p f (lst w) = some w := (path_iff G hf).mpr (b.isBest hw)
theorem Bfs.mem {p : Project} (G : Graph (importsOf p)) {f g : Nat} (hf : f < 10) {dn : List (List Nat)} (b : Bfs (importsOf p) f dn []) : g ∈ dn.map lst ↔ g ∈ reachedFrom p f := by
  rw [mem_reached G hf]
  constructor
  · intro h
    obtain ⟨w, hw, e⟩ := List.mem_map.mp h
    exact ⟨w, (b.isBest hw).1, e⟩
  · rintro ⟨w, hw, e⟩
    obtain ⟨w', h1, h2, _⟩ := b.best hw
    exact List.mem_map.mpr ⟨w', h1, h2.trans e⟩
end Sf
/-! M3: projects: imports left out, sizes. -/
namespace Sf
open Vbjbaj

theorem fileAt_lt {p : Project} {f : Nat} {x : File} (h : fileAt p f = some x) : f < p.length := by
  unfold fileAt at h
  by_cases c : f < p.length
  · exact c
  · simp [List.getD, List.getElem?_eq_none (by omega : p.length ≤ f)] at h
theorem doesExist_iff {p : Project} {f : Nat} : doesExist p f = true ↔ ∃ x, fileAt p f = some x := by
  unfold doesExist
  exact Option.isSome_iff_exists
theorem PWf.lt {t : Nat} {p : Project} (w : PWf t p) {f : Nat} (h : doesExist p f = true) : f < 10 := by
  obtain ⟨x, e⟩ := doesExist_iff.mp h
  have := fileAt_lt e
  rw [w.len] at this
  exact this
theorem fileAt_without (p : Project) (l : List (Nat × Nat)) (f : Nat) : fileAt (withoutImports p l) f = (fileAt p f).map fun x => { x with imports := x.imports.filter fun g => !l.contains (f, g) } := by
  unfold fileAt withoutImports
  simp only [List.getD, List.getElem?_map, List.getElem?_zipIdx]
  cases p[f]? with
  | none => rfl
  | some o => cases o <;> simp
theorem importsOf_without (p : Project) (l : List (Nat × Nat)) (f : Nat) : importsOf (withoutImports p l) f = (importsOf p f).filter fun g => !l.contains (f, g) := by
  unfold importsOf
  rw [fileAt_without]
  cases fileAt p f <;> simp
theorem without_nil (p : Project) : withoutImports p [] = p := by
  unfold withoutImports
  apply List.ext_getElem?
  intro i
  simp only [List.getElem?_map, List.getElem?_zipIdx]
  cases p[i]? with
  | none => rfl
  | some o =>
    cases o with
    | none => rfl
    | some x =>
      simp
      have e : x.imports.filter (fun _ => true) = x.imports := List.filter_eq_self.mpr fun _ _ => rfl
      simp [e]
theorem graph_without {p : Project} (g : Graph (importsOf p)) (l : List (Nat × Nat)) : Graph (importsOf (withoutImports p l)) := by
  refine ⟨fun a b hb => ?_, fun a => ?_⟩
  · rw [importsOf_without] at hb
    exact g.lt a b (List.mem_filter.mp hb).1
  · rw [importsOf_without]
    exact List.Pairwise.filter _ (g.up a)
theorem Graph.size {nx : Nat → List Nat} (g : Graph nx) (a : Nat) : (nx a).length ≤ 10 :=
  lt_of_nodup 10 _ ((g.up a).imp fun h => Nat.ne_of_lt h) (g.lt a)
theorem BfsIn.size {nx : Nat → List Nat} {f : Nat} {dn td : List (List Nat)} {u vs : List Nat} (g : Graph nx) (hf : f < 10) (b : BfsIn nx f dn u td vs) : (dn ++ u :: td).length ≤ 10 := by
  have := lt_of_nodup 10 _ b.nd (fun x hx => by
    obtain ⟨w, hw, e⟩ := List.mem_map.mp hx
    have k := b.wk w hw
    cases k with
    | one => rw [← e]; exact hf
    | snoc _ hv => rw [← e, lst_snoc]; exact g.lt _ _ hv)
  simpa using this
end Sf
/-! M4: the statements that a file sees: one strictly sorted list. -/
namespace Sf
open Vbjbaj

theorem bf_iff {a b : Statement} : isBefore a b = true ↔ a.kind < b.kind ∨ (a.kind = b.kind ∧ (a.form < b.form ∨ (a.form = b.form ∧ a.other < b.other))) := by
  unfold isBefore
  simp
theorem st_ext {a b : Statement} (h1 : a.kind = b.kind) (h2 : a.form = b.form) (h3 : a.other = b.other) : a = b := by
  obtain ⟨a1, a2, a3⟩ := a
  obtain ⟨b1, b2, b3⟩ := b
  simp only at h1 h2 h3
  subst_vars
  rfl
theorem bf_irr (a : Statement) : ¬ isBefore a a = true := fun h => by have := bf_iff.mp h; omega
theorem bf_trans {a b c : Statement} (h : isBefore a b = true) (k : isBefore b c = true) : isBefore a c = true := by
  have := bf_iff.mp h
  have := bf_iff.mp k
  exact bf_iff.mpr (by omega)
theorem bf_tri (a b : Statement) : isBefore a b = true ∨ a = b ∨ isBefore b a = true := by
  by_cases h1 : isBefore a b = true
  · exact .inl h1
  · by_cases h2 : isBefore b a = true
    · exact .inr (.inr h2)
    · rw [bf_iff] at h1 h2
      exact .inr (.inl (st_ext (by omega) (by omega) (by omega)))
abbrev Strict (l : List Statement) : Prop := l.Pairwise fun a b => isBefore a b = true
theorem strict_ext : ∀ (l m : List Statement), Strict l → Strict m → (∀ x, x ∈ l ↔ x ∈ m) → l = m
  | [], [], _, _, _ => rfl
  | [], b :: m, _, _, h => absurd ((h b).mpr (by simp)) (by simp)
  | a :: l, [], _, _, h => absurd ((h a).mp (by simp)) (by simp)
  | a :: l, b :: m, hl, hm, h => by
    rw [Strict, List.pairwise_cons] at hl hm
    have e : a = b := by
      rcases List.mem_cons.mp ((h a).mp (by simp)) with h1 | h1
      · exact h1
      · rcases List.mem_cons.mp ((h b).mpr (by simp)) with h2 | h2
        · exact h2.symm
        · exact absurd (bf_trans (hl.1 b h2) (hm.1 a h1)) (bf_irr a)
    subst e
    rw [strict_ext l m hl.2 hm.2 fun x => ?_]
    constructor
    · intro hx
      rcases List.mem_cons.mp ((h x).mp (by simp [hx])) with q | q
      · exact absurd (q ▸ hl.1 x hx) (bf_irr _)
      · exact q
    · intro hx
      rcases List.mem_cons.mp ((h x).mpr (by simp [hx])) with q | q
      · exact absurd (q ▸ hm.1 x hx) (bf_irr _)
      · exact q
theorem mem_insert {s x : Statement} : ∀ {l : List Statement}, x ∈ insertStatement s l ↔ x = s ∨ x ∈ l
  | [] => by simp [insertStatement]
  | r :: rest => by
    have ih := mem_insert (s := s) (x := x) (l := rest)
    unfold insertStatement
    split
    · rename_i e
      subst e
      simp
    · split
      · simp
      · rw [List.mem_cons, ih, List.mem_cons]
        grind
theorem strict_insert {s : Statement} : ∀ {l : List Statement}, Strict l → Strict (insertStatement s l)
  | [], _ => by simp [insertStatement]
  | r :: rest, h => by
    have h' := h
    rw [Strict, List.pairwise_cons] at h'
    unfold insertStatement
    split
    · exact h
    · rename_i ne
      split
      · rename_i b
        refine List.pairwise_cons.mpr ⟨fun x hx => ?_, h⟩
        rcases List.mem_cons.mp hx with e | e
        · rw [e]; exact b
        · exact bf_trans b (h'.1 x e)
      · rename_i nb
        refine List.pairwise_cons.mpr ⟨fun x hx => ?_, strict_insert h'.2⟩
        rcases mem_insert.mp hx with e | e
        · rw [e]
          rcases bf_tri s r with q | q | q
          · exact absurd q nb
          · exact absurd q ne
          · exact q
        · exact h'.1 x e
theorem fold_insert : ∀ (ss l : List Statement), Strict l → Strict (ss.foldl (fun l s => insertStatement s l) l) ∧ ∀ x, x ∈ ss.foldl (fun l s => insertStatement s l) l ↔ x ∈ ss ∨ x ∈ l
  | [], l, h => ⟨h, fun x => by simp⟩
  | s :: ss, l, h => by
    obtain ⟨h1, h2⟩ := fold_insert ss (insertStatement s l) (strict_insert h)
    refine ⟨h1, fun x => ?_⟩
    rw [List.foldl_cons, h2, mem_insert, List.mem_cons]
    grind
/-- the statements of a number's file -/
def stmtsAt (p : Project) (g : Nat) : List Statement := ((fileAt p g).map fun x => x.statements).getD []
theorem stmtsAt_some {p : Project} {g : Nat} {x : File} (h : fileAt p g = some x) : stmtsAt p g = x.statements := by simp [stmtsAt, h]
theorem statementsOf_strict (p : Project) (f : Nat) : Strict (statementsOf p f) := (fold_insert _ [] .nil).1
theorem mem_statementsOf {p : Project} {f : Nat} {s : Statement} : s ∈ statementsOf p f ↔ ∃ g ∈ visible p f, s ∈ stmtsAt p g := by
  unfold statementsOf
  rw [(fold_insert _ [] .nil).2]
  simp [stmtsAt]
theorem isFile_statements {t : Nat} {x : File} (h : isFile t x = true) : x.statements.length ≤ 12 := by
  simp only [isFile, Bool.and_eq_true] at h
  exact of_decide_eq_true h.2.2.1
theorem isFile_stOk {t : Nat} {x : File} (h : isFile t x = true) : ∀ s ∈ x.statements, isStatement t s = true := by
  simp only [isFile, Bool.and_eq_true] at h
  exact List.all_eq_true.mp h.2.2.2.1
theorem isFile_text {t : Nat} {x : File} (h : isFile t x = true) : x.text.length ≤ 60 ∧ ∀ a ∈ x.text, a < t := by
  simp only [isFile, Bool.and_eq_true] at h
  refine ⟨of_decide_eq_true h.2.2.2.2.1, fun a ha => ?_⟩
  have := List.all_eq_true.mp h.2.2.2.2.2 a ha
  exact of_decide_eq_true this
theorem strict_of {l : List Statement} (h : l.Pairwise fun a b => isBefore b a = false) (n : l.Nodup) : Strict l := by
  refine (List.pairwise_and_iff.mpr ⟨h, n⟩).imp fun {a b} h => ?_
  rcases bf_tri a b with q | q | q
  · exact q
  · exact absurd q h.2
  · rw [h.1] at q; cases q
theorem strict_nodup {l : List Statement} (h : Strict l) : l.Nodup := h.imp fun {a b} q e => by
  subst e
  exact bf_irr a q
end Sf
/-! M5: joined tokens: the least set that holds the text's and is closed. -/
namespace Sf
open Vbjbaj

/-- joined with the text -/
inductive Jn (l : List Statement) (text : List Nat) : Nat → Prop
  | base {a : Nat} : a ∈ text → a < 20 → Jn l text a
  | step {s : Statement} {a b : Nat} : s ∈ l → a ∈ tokensOf s → Jn l text a → b ∈ tokensOf s → b < 20 → Jn l text b
theorem mem_grow {l : List Statement} {t : List Nat} {a : Nat} : a ∈ growRound l t ↔ a < 20 ∧ (a ∈ t ∨ ∃ s ∈ l, a ∈ tokensOf s ∧ ∃ b ∈ tokensOf s, b ∈ t) := by
  simp [growRound, maxTokens]
theorem grow_up {l : List Statement} {t : List Nat} : (growRound l t).Pairwise (· < ·) := List.Pairwise.filter _ (range_up maxTokens)
/-- rising, below 20 -/
structure Tk (t : List Nat) : Prop where
  up : t.Pairwise (· < ·)
  lt : ∀ a ∈ t, a < 20
theorem Tk.grow {l : List Statement} {t : List Nat} : Tk (growRound l t) := ⟨grow_up, fun _ h => (mem_grow.mp h).1⟩
theorem Tk.len {t : List Nat} (h : Tk t) : t.length ≤ 20 := lt_of_nodup 20 t (h.up.imp fun h => Nat.ne_of_lt h) h.lt
theorem sub_len {t u : List Nat} (ht : Tk t) (hu : Tk u) (h : ∀ a ∈ t, a ∈ u) (ne : u ≠ t) : t.length + 1 ≤ u.length := by
  have e : u.filter (fun a => t.contains a) = t := by
    refine eq_of_up _ _ (List.Pairwise.filter _ hu.up) ht.up fun x => ?_
    rw [List.mem_filter]
    constructor
    · rintro ⟨_, h⟩
      simpa using h
    · intro hx
      exact ⟨h x hx, by simpa using hx⟩
  have sl : t.Sublist u := by
    have := List.filter_sublist (p := fun a => t.contains a) (l := u)
    rwa [e] at this
  rcases Nat.lt_or_eq_of_le sl.length_le with q | q
  · exact q
  · exact absurd (sl.eq_of_length q).symm ne
theorem growRounds_fix {l : List Statement} : ∀ (n : Nat) (t : List Nat), Tk t → 20 ≤ n + t.length → growRound l (growRounds l n t) = growRounds l n t ∧ Tk (growRounds l n t)
  | 0, t, h, hn => by
    refine ⟨?_, h⟩
    show growRound l t = t
    by_cases c : growRound l t = t
    · exact c
    · have := sub_len h Tk.grow (fun a ha => mem_grow.mpr ⟨h.lt a ha, .inl ha⟩) c
      have := (Tk.grow (l := l) (t := t)).len
      omega
  | n + 1, t, h, hn => by
    unfold growRounds
    show growRound l (if growRound l t = t then t else growRounds l n (growRound l t)) = (if growRound l t = t then t else growRounds l n (growRound l t)) ∧ Tk (if growRound l t = t then t else growRounds l n (growRound l t))
    by_cases c : growRound l t = t
    · rw [if_pos c]
      exact ⟨c, h⟩
    · rw [if_neg c]
      have := sub_len h Tk.grow (fun a ha => mem_grow.mpr ⟨h.lt a ha, .inl ha⟩) c
      exact growRounds_fix n _ Tk.grow (by omega)
theorem growRounds_keep {l : List Statement} {P : Nat → Prop} (hs : ∀ t, (∀ a ∈ t, P a) → ∀ a ∈ growRound l t, P a) : ∀ (n : Nat) (t : List Nat), (∀ a ∈ t, P a) → ∀ a ∈ growRounds l n t, P a
  | 0, t, h => h
  | n + 1, t, h => by
    unfold growRounds
    show ∀ a ∈ (if growRound l t = t then t else growRounds l n (growRound l t)), P a
    by_cases c : growRound l t = t
    · rw [if_pos c]; exact h
    · rw [if_neg c]; exact growRounds_keep hs n _ (hs t h)
theorem growRounds_sub {l : List Statement} : ∀ (n : Nat) (t : List Nat), Tk t → ∀ a ∈ t, a ∈ growRounds l n t
  | 0, t, _ => fun _ h => h
  | n + 1, t, h => by
    unfold growRounds
    show ∀ a ∈ t, a ∈ (if growRound l t = t then t else growRounds l n (growRound l t))
    by_cases c : growRound l t = t
    · rw [if_pos c]; exact fun _ h => h
    · rw [if_neg c]
      exact fun a ha => growRounds_sub n _ Tk.grow a (mem_grow.mpr ⟨h.lt a ha, .inl ha⟩)
theorem joined_up (l : List Statement) (text : List Nat) : Tk (joined l text) :=
  (growRounds_fix maxTokens _ ⟨List.Pairwise.filter _ (range_up maxTokens), fun a h => by simpa [maxTokens] using (List.mem_filter.mp h).1⟩ (by simp [maxTokens])).2
theorem mem_joined {l : List Statement} {text : List Nat} {a : Nat} : a ∈ joined l text ↔ Jn l text a := by
  have h0 : Tk ((List.range maxTokens).filter text.contains) := ⟨List.Pairwise.filter _ (range_up maxTokens), fun a h => by simpa [maxTokens] using (List.mem_filter.mp h).1⟩
  constructor
  · refine growRounds_keep (P := Jn l text) (fun t ht a ha => ?_) _ _ (fun a ha => ?_) a
    · obtain ⟨h1, h2 | ⟨s, h2, h3, b, h4, h5⟩⟩ := mem_grow.mp ha
      · exact ht a h2
      · exact .step h2 h4 (ht b h5) h3 h1
    · obtain ⟨h1, h2⟩ := List.mem_filter.mp ha
      exact .base (by simpa using h2) (by simpa [maxTokens] using h1)
  · intro h
    obtain ⟨fix, _⟩ := growRounds_fix (l := l) maxTokens _ h0 (by simp [maxTokens])
    induction h with
    | base h1 h2 => exact growRounds_sub _ _ h0 _ (List.mem_filter.mpr ⟨by simpa [maxTokens] using h2, by simpa using h1⟩)
    | step h1 h2 _ h4 h5 ih =>
      have : _ ∈ growRound l (growRounds l maxTokens ((List.range maxTokens).filter text.contains)) := mem_grow.mpr ⟨h5, .inr ⟨_, h1, h4, _, h2, ih⟩⟩
      rw [fix] at this
      exact this
/-- a statement asks for no more tokens -/
def Quiet (s : Statement) (t : List Nat) : Prop := (∃ a ∈ tokensOf s, a ∈ t) → ∀ b ∈ tokensOf s, b ∈ t
theorem joined_of {l : List Statement} {text t : List Nat} (h1 : ∀ a ∈ text, a ∈ t) (h2 : ∀ a ∈ t, Jn l text a) (h3 : ∀ s ∈ l, Quiet s t) (a : Nat) : a ∈ t ↔ a ∈ joined l text := by
  rw [mem_joined]
  constructor
  · exact h2 a
  · intro h
    induction h with
    | base h _ => exact h1 _ h
    | step q1 q2 _ q4 _ ih => exact h3 _ q1 ⟨_, q2, ih⟩ _ q4
theorem token_lt {t : Nat} {s : Statement} (h : isStatement t s = true) : ∀ a ∈ tokensOf s, a < t := by
  unfold isStatement at h
  simp only [Bool.and_eq_true, decide_eq_true_eq] at h
  intro a ha
  unfold tokensOf at ha
  split at ha
  · simp at ha
    omega
  · rename_i c
    rw [if_neg c] at h
    have := of_decide_eq_true h.2
    simp at ha
    rcases ha with rfl | rfl <;> omega
theorem seen_ok {t : Nat} {p : Project} (pw : ∀ f x, fileAt p f = some x → isFile t x = true) {f : Nat} {s : Statement} (h : s ∈ statementsOf p f) : isStatement t s = true := by
  obtain ⟨g, _, hs⟩ := mem_statementsOf.mp h
  cases e : fileAt p g with
  | none => simp [stmtsAt, e] at hs
  | some x =>
    rw [stmtsAt_some e] at hs
    exact isFile_stOk (pw g x e) s hs
theorem relevantOf_some {p : Project} {f : Nat} {x : File} (h : fileAt p f = some x) : relevantOf p f = (statementsOf p f).filter fun s => (tokensOf s).any (joined (statementsOf p f) x.text).contains := by
  unfold relevantOf
  rw [h]
theorem flatMap_len {α β : Type} (f : α → List β) (n : Nat) (h : ∀ a, (f a).length ≤ n) : ∀ l : List α, (l.flatMap f).length ≤ n * l.length
  | [] => by simp
  | a :: l => by
    have := flatMap_len f n h l
    have := h a
    simp only [List.flatMap_cons, List.length_append, List.length_cons, Nat.mul_add]
    omega
theorem insert_len (s : Statement) : ∀ l : List Statement, (insertStatement s l).length ≤ l.length + 1
  | [] => by simp [insertStatement]
  | r :: rest => by
    have := insert_len s rest
    unfold insertStatement
    split
    · simp
    · split
      · simp
      · simp only [List.length_cons]; omega
theorem fold_len : ∀ (ss l : List Statement), (ss.foldl (fun l s => insertStatement s l) l).length ≤ ss.length + l.length
  | [], l => by simp
  | s :: ss, l => by
    have := fold_len ss (insertStatement s l)
    have := insert_len s l
    rw [List.foldl_cons, List.length_cons]
    omega
theorem visible_size' {p : Project} {f : Nat} : (visible p f).length ≤ 10 := Nat.le_trans (List.length_filter_le _ _) (lt_of_nodup 10 _ (reached_up.imp fun h => Nat.ne_of_lt h) fun _ => reached_lt)
theorem statementsOf_len {t : Nat} {p : Project} (pw : ∀ f x, fileAt p f = some x → isFile t x = true) (f : Nat) : (statementsOf p f).length ≤ 120 := by
  unfold statementsOf
  have h1 := fold_len ((visible p f).flatMap fun g => ((fileAt p g).map fun x => x.statements).getD []) []
  have h2 := flatMap_len (fun g => ((fileAt p g).map fun x => x.statements).getD []) 12 (fun g => by
    cases e : fileAt p g with
    | none => simp
    | some x => simpa [e] using isFile_statements (pw g x e)) (visible p f)
  have := visible_size' (p := p) (f := f)
  simp only [List.length_nil] at h1
  omega
end Sf
/-! M6: files put in; keys that a change does not reach; parts of a list; needed imports. -/
namespace Sf
open Vbjbaj

theorem fileAt_put {p : Project} {f g : Nat} {o : Option File} (hf : f < p.length) : fileAt (put p f o) g = if g = f then o else fileAt p g := by
  unfold fileAt put
  by_cases e : g = f
  · subst e
    simp [List.getD, hf]
  · have e' : ¬ f = g := fun h => e h.symm
    simp [List.getD, e, List.getElem?_set_ne e']
theorem put_len {p : Project} {f : Nat} {o : Option File} : (put p f o).length = p.length := by simp [put]
theorem PWf.put {t : Nat} {p : Project} (w : PWf t p) {f : Nat} {o : Option File} (ho : ∀ x, o = some x → isFile t x = true) : PWf t (Vbjbaj.put p f o) := by
  refine ⟨by rw [put_len]; exact w.len, fun g x h => ?_, w.tk⟩
  by_cases hf : f < p.length
  · rw [fileAt_put hf] at h
    split at h
    · exact ho x h
    · exact w.ok g x h
  · have : Vbjbaj.put p f o = p := by
      unfold Vbjbaj.put
      exact List.set_eq_of_length_le (by omega)
    rw [this] at h
    exact w.ok g x h
/-! ### keys that a change does not reach -/
theorem wk_far {nx nx' : Nat → List Nat} {f g : Nat} (h : ∀ a, a ≠ f → nx' a = nx a) (hn : ¬ Rch nx g f) {w : List Nat} : Wk nx g w ↔ Wk nx' g w := by
  constructor
  · intro k
    induction k with
    | one => exact .one
    | @snoc w v k hv ih =>
      refine .snoc ih ?_
      rw [h _ fun e => hn ⟨w, k, e⟩]
      exact hv
  · intro k
    induction k with
    | one => exact .one
    | @snoc w v k hv ih =>
      refine .snoc ih ?_
      rw [← h _ fun e => hn ⟨w, ih, e⟩]
      exact hv
theorem reached_far {p q : Project} (G : Graph (importsOf p)) (G' : Graph (importsOf q)) {f g : Nat} (h : ∀ a, a ≠ f → fileAt q a = fileAt p a) (hg : g < 10) (hn : f ∉ reachedFrom p g) : reachedFrom q g = reachedFrom p g := by
  have hi : ∀ a, a ≠ f → importsOf q a = importsOf p a := fun a ha => by unfold importsOf; rw [h a ha]
  have hr : ¬ Rch (importsOf p) g f := fun r => hn ((mem_reached G hg).mpr r)
  refine eq_of_up _ _ reached_up reached_up fun x => ?_
  rw [mem_reached G hg, mem_reached G' hg]
  constructor
  · rintro ⟨w, k, e⟩
    exact ⟨w, (wk_far hi hr).mpr k, e⟩
  · rintro ⟨w, k, e⟩
    exact ⟨w, (wk_far hi hr).mp k, e⟩
theorem key_far {p q : Project} (G : Graph (importsOf p)) (G' : Graph (importsOf q)) {f g : Nat} (h : ∀ a, a ≠ f → fileAt q a = fileAt p a) (hg : g < 10) (hn : f ∉ reachedFrom p g) : keyOf q g = keyOf p g := by
  have hr := reached_far G G' h hg hn
  have gf : g ≠ f := fun e => hn ((mem_reached G hg).mpr (e ▸ Rch.refl))
  have hv : visible q g = visible p g := by
    unfold visible
    rw [hr]
    refine List.filter_congr fun x hx => ?_
    have : x ≠ f := fun e => hn (e ▸ hx)
    unfold doesExist
    rw [h x this]
  have hs : statementsOf q g = statementsOf p g := by
    refine strict_ext _ _ (statementsOf_strict _ _) (statementsOf_strict _ _) fun s => ?_
    rw [mem_statementsOf, mem_statementsOf, hv]
    have : ∀ x ∈ visible p g, stmtsAt q x = stmtsAt p x := fun x hx => by
      have : x ≠ f := fun e => hn (e ▸ (List.mem_filter.mp hx).1)
      unfold stmtsAt
      rw [h x this]
    constructor
    · rintro ⟨x, h1, h2⟩; exact ⟨x, h1, by rwa [this x h1] at h2⟩
    · rintro ⟨x, h1, h2⟩; exact ⟨x, h1, by rwa [this x h1]⟩
  unfold keyOf relevantOf
  rw [h g gf, hs]
theorem key_none {p : Project} {f : Nat} (h : fileAt p f = none) : keyOf p f = none := by simp [keyOf, h]
theorem key_some {p : Project} {f : Nat} {x : File} (h : fileAt p f = some x) : keyOf p f = some ⟨x.text, relevantOf p f⟩ := by simp [keyOf, h]

/-! ### parts of a list -/
theorem parts_nil (k : Nat) : partsOf (k + 1) [] = [] := rfl
theorem parts_zero (l : List Nat) : partsOf 0 l = [[]] := by cases l <;> rfl
theorem parts_cons (k a : Nat) (l : List Nat) : partsOf (k + 1) (a :: l) = ((partsOf k l).map fun m => a :: m) ++ partsOf (k + 1) l := rfl
theorem parts_sub : ∀ (k : Nat) (l m : List Nat), m ∈ partsOf k l → m.Sublist l ∧ m.length = k
  | 0, l, m, h => by
    rw [parts_zero] at h
    simp at h
    subst h
    simp
  | k + 1, [], m, h => by rw [parts_nil] at h; simp at h
  | k + 1, a :: l, m, h => by
    rw [parts_cons] at h
    rcases List.mem_append.mp h with h | h
    · obtain ⟨m', h1, rfl⟩ := List.mem_map.mp h
      obtain ⟨h2, h3⟩ := parts_sub k l m' h1
      exact ⟨h2.cons_cons a, by simp [h3]⟩
    · obtain ⟨h2, h3⟩ := parts_sub (k + 1) l m h
      exact ⟨h2.cons a, h3⟩
theorem parts_big : ∀ (l : List Nat) (k : Nat), l.length < k → partsOf k l = []
  | [], k + 1, _ => rfl
  | a :: l, k + 1, h => by
    simp at h
    rw [parts_cons, parts_big l k (by omega), parts_big l (k + 1) (by omega)]
    rfl
theorem parts_all : ∀ l : List Nat, partsOf l.length l = [l]
  | [] => rfl
  | a :: l => by
    rw [List.length_cons, parts_cons, parts_all l, parts_big l (l.length + 1) (by omega)]
    rfl
theorem parts_len : ∀ (l : List Nat) (k : Nat), (partsOf k l).length ≤ 2 ^ l.length
  | [], 0 => by simp [partsOf]
  | [], k + 1 => by simp [partsOf]
  | a :: l, 0 => by
    rw [parts_zero]
    exact Nat.one_le_two_pow
  | a :: l, k + 1 => by
    have h1 := parts_len l k
    have h2 := parts_len l (k + 1)
    rw [parts_cons, List.length_append, List.length_map, List.length_cons, Nat.pow_succ]
    omega
theorem parts_step {k i a : Nat} {l : List Nat} (h : l[i]? = some a) : partsOf (k + 1) (l.drop i) = ((partsOf k (l.drop (i + 1))).map fun m => a :: m) ++ partsOf (k + 1) (l.drop (i + 1)) := by
  obtain ⟨hi, e⟩ := List.getElem?_eq_some_iff.mp h
  rw [List.drop_eq_getElem_cons hi, e, parts_cons]

/-! ### needed imports -/
def enough (p : Project) (f : Nat) (l : List Nat) : Bool := (List.range maxFiles).all fun g => keyOf (withImports p f l) g == keyOf p g
theorem enough_iff {p : Project} {f : Nat} {l : List Nat} : enough p f l = true ↔ ∀ g, g < 10 → keyOf (withImports p f l) g = keyOf p g := by
  simp [enough, maxFiles]
theorem findSome_none {α : Type} (f : Nat → Option α) (n : Nat) (h : ∀ k, k < n → f k = none) : (List.range n).findSome? f = none := by
  rw [List.findSome?_eq_none_iff]
  intro k hk
  exact h k (List.mem_range.mp hk)
theorem findSome_some {α : Type} (f : Nat → Option α) (n i : Nat) (x : α) (h : ∀ k, k < i → f k = none) (hi : i < n) (hx : f i = some x) : (List.range n).findSome? f = some x := by
  obtain ⟨m, rfl⟩ : ∃ m, n = i + 1 + m := ⟨n - (i + 1), by omega⟩
  rw [List.range_add, List.findSome?_append, List.range_succ, List.findSome?_append, findSome_none f i h]
  simp [hx]
theorem needed_eq {p : Project} {f : Nat} (hall : enough p f (importsOf p f) = true) : neededImports p f = ((List.range (importsOf p f).length).findSome? fun k => (partsOf k (importsOf p f)).find? (enough p f)).getD (importsOf p f) := by
  have e : neededImports p f = ((List.range ((importsOf p f).length + 1)).findSome? fun k => (partsOf k (importsOf p f)).find? (enough p f)).getD (importsOf p f) := by
    unfold neededImports
    have : ∀ l : List Nat, ((List.range maxFiles).all fun g => keyOf (withImports p f l) g == ((List.range maxFiles).map (keyOf p)).getD g none) = enough p f l := fun l => by
      unfold enough
      rw [Bool.eq_iff_iff, List.all_eq_true, List.all_eq_true]
      constructor
      · intro k g hg
        have := k g hg
        rwa [getD_map_range _ _ g (by simpa [maxFiles] using hg)] at this
      · intro k g hg
        rw [getD_map_range _ _ g (by simpa [maxFiles] using hg)]
        exact k g hg
    have e2 : enough p f = fun l : List Nat => ((List.range maxFiles).all fun g => keyOf (withImports p f l) g == ((List.range maxFiles).map (keyOf p)).getD g none) := funext fun l => (this l).symm
    rw [e2]
  rw [e, List.range_succ, List.findSome?_append]
  cases h : (List.range (importsOf p f).length).findSome? fun k => (partsOf k (importsOf p f)).find? (enough p f) with
  | some x => rfl
  | none =>
    simp [parts_all, hall]
theorem withImports_same {p : Project} {f : Nat} {x : File} (h : fileAt p f = some x) : withImports p f x.imports = p := by
  unfold withImports put
  rw [h]
  have hf := fileAt_lt h
  have : p[f]? = some (some x) := by
    unfold fileAt at h
    rw [List.getD, List.getElem?_eq_getElem hf] at h
    rw [List.getElem?_eq_getElem hf]
    exact congrArg some h
  show p.set f (some { x with imports := x.imports }) = p
  obtain ⟨hi, e⟩ := List.getElem?_eq_some_iff.mp this
  rw [show (some { x with imports := x.imports } : Option File) = some x from rfl, ← e, List.set_getElem_self]
theorem sub_isFile {t : Nat} {x : File} (h : isFile t x = true) {l : List Nat} (s : l.Sublist x.imports) : isFile t { x with imports := l } = true := by
  have hi := isFile_imports h
  simp only [isFile, Bool.and_eq_true] at h ⊢
  refine ⟨up_isRising _ (hi.1.sublist s), ?_, h.2.2⟩
  rw [List.all_eq_true]
  intro b hb
  exact decide_eq_true (hi.2 b (s.mem hb))
theorem PWf.withImports {t : Nat} {p : Project} (w : PWf t p) {f : Nat} {x : File} (h : fileAt p f = some x) {l : List Nat} (s : l.Sublist x.imports) : PWf t (withImports p f l) := by
  unfold Vbjbaj.withImports
  rw [h]
  refine w.put fun y e => ?_
  cases e
  exact sub_isFile (w.ok f x h) s
theorem fileAt_with {p : Project} {f g : Nat} {x : File} (h : fileAt p f = some x) (l : List Nat) : fileAt (withImports p f l) g = if g = f then some { x with imports := l } else fileAt p g := by
  unfold Vbjbaj.withImports
  rw [fileAt_put (fileAt_lt h), h]
  rfl
/-- it is enough to look at the files that see it -/
theorem enough_of {t : Nat} {p : Project} (w : PWf t p) {f : Nat} {x : File} (h : fileAt p f = some x) {l : List Nat} (s : l.Sublist x.imports) (os : List Nat) (ho : ∀ g, g ∈ os ↔ doesExist p g = true ∧ f ∈ reachedFrom p g) :
    enough p f l = true ↔ ∀ g ∈ os, keyOf (withImports p f l) g = keyOf p g := by
  rw [enough_iff]
  constructor
  · intro k g hg
    exact k g (w.lt ((ho g).mp hg).1)
  · intro k g hg
    by_cases c : doesExist p g = true ∧ f ∈ reachedFrom p g
    · exact k g ((ho g).mpr c)
    · by_cases e : doesExist p g = true
      · have hn : f ∉ reachedFrom p g := fun z => c ⟨e, z⟩
        exact key_far w.graph (w.withImports h s).graph (fun a ha => by rw [fileAt_with h, if_neg ha]) hg hn
      · have en : fileAt p g = none := by
          unfold doesExist at e
          simpa using e
        have gf : g ≠ f := fun z => by rw [z, h] at en; cases en
        rw [key_none en, key_none]
        rw [fileAt_with h, if_neg gf]
        exact en
end Sf
/-! M8: a flow of single imports, and the one smallest cut. -/
namespace Sf
open Vbjbaj

/-! ### lists without repetition -/
theorem nodup_sub_len {α : Type} [DecidableEq α] : ∀ (a b : List α), a.Nodup → (∀ x ∈ a, x ∈ b) → a.length ≤ b.length
  | [], _, _, _ => by simp
  | x :: a, b, h, s => by
    rw [List.nodup_cons] at h
    have hx := s x (by simp)
    have := nodup_sub_len a (b.erase x) h.2 fun y hy => by
      have : y ≠ x := fun e => h.1 (e ▸ hy)
      exact (List.mem_erase_of_ne this).mpr (s y (by simp [hy]))
    have := List.length_erase_of_mem hx
    have := List.length_pos_of_mem hx
    simp only [List.length_cons]
    omega
theorem nodup_sub_all {α : Type} [DecidableEq α] {a b : List α} (h : a.Nodup) (s : ∀ x ∈ a, x ∈ b) (l : b.length ≤ a.length) : ∀ x ∈ b, x ∈ a := fun x hx => by
  by_cases c : x ∈ a
  · exact c
  · have := nodup_sub_len (x :: a) b (List.nodup_cons.mpr ⟨c, h⟩) fun y hy => by
      rcases List.mem_cons.mp hy with e | e
      · exact e ▸ hx
      · exact s y e
    simp at this
    omega

/-! ### what crosses -/
abbrev Pr := Nat × Nat
def ind (b : Bool) : Int := if b then 1 else 0
def cross (U : List Pr) (S : Nat → Bool) : Int := (U.map fun e => ind (S e.1) - ind (S e.2)).sum
def outOf (U : List Pr) (S : Nat → Bool) : List Pr := U.filter fun e => S e.1 && !S e.2
def into (U : List Pr) (S : Nat → Bool) : List Pr := U.filter fun e => !S e.1 && S e.2
theorem cross_cons (e : Pr) (U : List Pr) (S : Nat → Bool) : cross (e :: U) S = (ind (S e.1) - ind (S e.2)) + cross U S := by simp [cross]
theorem cross_eq (S : Nat → Bool) : ∀ U : List Pr, cross U S = ((outOf U S).length : Int) - ((into U S).length : Int)
  | [] => rfl
  | e :: U => by
    rw [cross_cons, cross_eq S U]
    unfold outOf into
    cases h1 : S e.1 <;> cases h2 : S e.2 <;> simp [h1, h2, ind] <;> omega
theorem cross_snoc (U : List Pr) (e : Pr) (S : Nat → Bool) : cross (U ++ [e]) S = cross U S + (ind (S e.1) - ind (S e.2)) := by
  simp [cross]
theorem cross_drop (S : Nat → Bool) {e : Pr} : ∀ {U : List Pr}, U.Nodup → e ∈ U → cross (U.filter fun x => decide (x ≠ e)) S = cross U S - (ind (S e.1) - ind (S e.2))
  | [], _, h => by simp at h
  | x :: U, nd, h => by
    rw [List.nodup_cons] at nd
    by_cases c : x = e
    · subst c
      have : (x :: U).filter (fun y => decide (y ≠ x)) = U := by
        rw [List.filter_cons_of_neg (by simp)]
        refine List.filter_eq_self.mpr fun y hy => ?_
        have : y ≠ x := fun z => nd.1 (z ▸ hy)
        simp [this]
      rw [this, cross_cons]
      omega
    · have := cross_drop S nd.2 ((List.mem_cons.mp h).resolve_left fun z => c z.symm)
      rw [List.filter_cons_of_pos (by simp [c]), cross_cons, cross_cons, this]
      omega

/-! ### along a path -/
def augStep (U : List Pr) (a b : Nat) : List Pr := if (b, a) ∈ U then U.filter (fun e => decide (e ≠ (b, a))) else if (a, b) ∈ U then U else U ++ [(a, b)]
def augPath (U : List Pr) : List Nat → List Pr
  | a :: b :: r => augPath (augStep U a b) (b :: r)
  | _ => U
/-- an import between files that exist -/
def Ed (p : Project) (a b : Nat) : Prop := b ∈ importsOf p a ∧ doesExist p b = true
/-- steps along unused imports, or back along used ones -/
def Steps (p : Project) (U : List Pr) : List Nat → Prop
  | a :: b :: r => ((b, a) ∈ U ∨ ((a, b) ∉ U ∧ Ed p a b)) ∧ Steps p U (b :: r)
  | _ => True
theorem Steps.congr {p : Project} {U U' : List Pr} : ∀ {w : List Nat}, (∀ a ∈ w, ∀ b ∈ w, (a, b) ∈ U' ↔ (a, b) ∈ U) → Steps p U w → Steps p U' w
  | [], _, _ => trivial
  | [_], _, _ => trivial
  | a :: b :: r, h, s => by
    refine ⟨?_, Steps.congr (fun x hx y hy => h x (by simp [hx]) y (by simp [hy])) s.2⟩
    rcases s.1 with q | ⟨q1, q2⟩
    · exact .inl ((h b (by simp) a (by simp)).mpr q)
    · exact .inr ⟨fun z => q1 ((h a (by simp) b (by simp)).mp z), q2⟩
theorem aug_mem {U : List Pr} {a b : Nat} {x y : Nat} (h1 : (x, y) ≠ (a, b)) (h2 : (x, y) ≠ (b, a)) : (x, y) ∈ augStep U a b ↔ (x, y) ∈ U := by
  unfold augStep
  split
  · rw [List.mem_filter]
    simp only [decide_eq_true_eq]
    exact ⟨fun h => h.1, fun h => ⟨h, h2⟩⟩
  · split
    · exact Iff.rfl
    · rw [List.mem_append, List.mem_singleton]
      exact ⟨fun h => h.resolve_right h1, .inl⟩
theorem aug_nodup {U : List Pr} {a b : Nat} (h : U.Nodup) : (augStep U a b).Nodup := by
  unfold augStep
  split
  · exact h.filter _
  · split
    · exact h
    · rw [List.nodup_append]
      refine ⟨h, by simp, ?_⟩
      intro x hx y hy
      simp at hy
      subst hy
      intro z
      subst z
      contradiction
theorem aug_path {p : Project} : ∀ (w : List Nat) (U : List Pr), w.Nodup → U.Nodup → (∀ e ∈ U, Ed p e.1 e.2) → Steps p U w →
    (augPath U w).Nodup ∧ (∀ e ∈ augPath U w, Ed p e.1 e.2) ∧ ∀ S : Nat → Bool, w ≠ [] → cross (augPath U w) S = cross U S + (ind (S (w.headD 0)) - ind (S (lst w)))
  | [], U, _, h, he, _ => ⟨h, he, fun S c => absurd rfl c⟩
  | [a], U, _, h, he, _ => ⟨h, he, fun S _ => by show cross U S = cross U S + (ind (S a) - ind (S a)); omega⟩
  | a :: b :: r, U, hw, h, he, st => by
    have hw' := hw
    rw [List.nodup_cons] at hw'
    have hs : Steps p (augStep U a b) (b :: r) := by
      refine Steps.congr (fun x hx y hy => aug_mem (fun z => ?_) fun z => ?_) st.2
      · have := (Prod.mk.inj z).1
        exact hw'.1 (this ▸ hx)
      · have := (Prod.mk.inj z).2
        exact hw'.1 (this ▸ hy)
    have he' : ∀ e ∈ augStep U a b, Ed p e.1 e.2 := fun e hm => by
      unfold augStep at hm
      split at hm
      · exact he e (List.mem_filter.mp hm).1
      · rename_i c
        split at hm
        · exact he e hm
        · rcases List.mem_append.mp hm with q | q
          · exact he e q
          · rw [List.mem_singleton.mp q]
            rcases st.1 with z | z
            · exact absurd z c
            · exact z.2
    obtain ⟨q1, q2, q3⟩ := aug_path (b :: r) (augStep U a b) hw'.2 (aug_nodup h) he' hs
    refine ⟨q1, q2, fun S _ => ?_⟩
    show cross (augPath (augStep U a b) (b :: r)) S = cross U S + (ind (S a) - ind (S (lst (a :: b :: r))))
    rw [q3 S (by simp), lst_cons]
    have e1 : cross (augStep U a b) S = cross U S + (ind (S a) - ind (S b)) := by
      unfold augStep
      split
      · rename_i c
        rw [cross_drop S h c]
        show cross U S - (ind (S b) - ind (S a)) = _
        omega
      · rename_i c
        rcases st.1 with z | z
        · exact absurd z c
        · rw [if_neg z.1, cross_snoc]
    rw [e1]
    show cross U S + (ind (S a) - ind (S b)) + (ind (S b) - ind (S (lst (b :: r)))) = _
    omega

/-! ### flows -/
structure Flow (p : Project) (s t : Nat) (U : List Pr) (k : Nat) : Prop where
  nd : U.Nodup
  ed : ∀ e ∈ U, Ed p e.1 e.2
  val : ∀ S : Nat → Bool, S s = true → S t = false → cross U S = k
theorem Flow.zero (p : Project) (s t : Nat) : Flow p s t [] 0 := ⟨.nil, fun e h => by simp at h, fun S _ _ => rfl⟩
theorem Flow.more {p : Project} {s t k : Nat} {U : List Pr} (F : Flow p s t U k) {w : List Nat} (hw : w.Nodup) (st : Steps p U w) (h1 : w.head? = some s) (h2 : lst w = t) : Flow p s t (augPath U w) (k + 1) := by
  obtain ⟨q1, q2, q3⟩ := aug_path w U hw F.nd F.ed st
  refine ⟨q1, q2, fun S hs ht => ?_⟩
  have ne : w ≠ [] := fun z => by rw [z] at h1; cases h1
  rw [q3 S ne, F.val S hs ht, h2, ht]
  have : w.headD 0 = s := by rw [List.headD_eq_head?_getD, h1]; rfl
  rw [this, hs]
  simp [ind]
theorem Flow.bound {p : Project} {s t k : Nat} {U : List Pr} (G : Graph (importsOf p)) (F : Flow p s t U k) (hst : s ≠ t) : k ≤ 10 := by
  have h := F.val (fun x => x == s) (by simp) (by simp; exact fun z => hst z.symm)
  rw [cross_eq] at h
  have : (outOf U fun x => x == s).length ≤ ((importsOf p s).map fun b => (s, b)).length := by
    refine nodup_sub_len _ _ (F.nd.filter _) fun e he => ?_
    obtain ⟨h1, h2⟩ := List.mem_filter.mp he
    simp at h2
    exact List.mem_map.mpr ⟨e.2, by rw [← h2.1]; exact (F.ed e h1).1, by rw [← h2.1]⟩
  rw [List.length_map] at this
  have := G.size s
  omega

/-! ### masks -/
theorem mask_of : ∀ (n : Nat) (S : Nat → Bool), ∃ m, m < 2 ^ n ∧ ∀ i, i < n → m.testBit i = S i
  | 0, _ => ⟨0, by simp, fun i h => by omega⟩
  | n + 1, S => by
    obtain ⟨m, h1, h2⟩ := mask_of n fun i => S (i + 1)
    refine ⟨2 * m + (if S 0 then 1 else 0), ?_, fun i hi => ?_⟩
    · rw [Nat.pow_succ]
      split <;> omega
    · cases i with
      | zero =>
        rw [Nat.testBit_zero]
        cases S 0 <;> simp <;> omega
      | succ i =>
        rw [Nat.testBit_succ]
        have : (2 * m + (if S 0 then 1 else 0)) / 2 = m := by split <;> omega
        rw [this]
        exact h2 i (by omega)
theorem mask_eq {m m' : Nat} (h : m < 2 ^ 10) (h' : m' < 2 ^ 10) (e : ∀ i, i < 10 → m.testBit i = m'.testBit i) : m = m' := by
  refine Nat.eq_of_testBit_eq fun i => ?_
  by_cases c : i < 10
  · exact e i c
  · have p1 : 2 ^ 10 ≤ 2 ^ i := Nat.pow_le_pow_right (by decide) (by omega)
    rw [Nat.testBit_lt_two_pow (Nat.lt_of_lt_of_le h p1), Nat.testBit_lt_two_pow (Nat.lt_of_lt_of_le h' p1)]
theorem mem_leaving {p : Project} {m : Nat} {e : Pr} : e ∈ leaving p m ↔ e.1 < 10 ∧ m.testBit e.1 = true ∧ Ed p e.1 e.2 ∧ m.testBit e.2 = false := by
  unfold leaving
  rw [List.mem_flatMap]
  constructor
  · rintro ⟨a, ha, h⟩
    split at h
    · simp at h
    · rename_i c
      obtain ⟨b, hb, rfl⟩ := List.mem_map.mp h
      obtain ⟨h1, h2⟩ := List.mem_filter.mp hb
      simp at h2
      exact ⟨by simpa [maxFiles] using ha, by simpa using c, ⟨h1, h2.1⟩, h2.2⟩
  · rintro ⟨h1, h2, ⟨h3, h4⟩, h5⟩
    refine ⟨e.1, by simpa [maxFiles] using h1, ?_⟩
    rw [if_neg (by simp [h2])]
    exact List.mem_map.mpr ⟨e.2, List.mem_filter.mpr ⟨h3, by simp [h4, h5]⟩, rfl⟩
theorem nodup_flat {F : Nat → List Pr} (h1 : ∀ f, (F f).Nodup) (h2 : ∀ f, ∀ e ∈ F f, e.1 = f) : ∀ l : List Nat, l.Nodup → (l.flatMap F).Nodup
  | [], _ => by simp
  | f :: l, h => by
    rw [List.nodup_cons] at h
    rw [List.flatMap_cons, List.nodup_append]
    refine ⟨h1 f, nodup_flat h1 h2 l h.2, fun x hx y hy z => ?_⟩
    subst z
    obtain ⟨g, hg, hy⟩ := List.mem_flatMap.mp hy
    have := h2 f x hx
    have := h2 g x hy
    exact h.1 (by have : f = g := by omega
                  exact this ▸ hg)
theorem leaving_nodup {p : Project} (G : Graph (importsOf p)) (m : Nat) : (leaving p m).Nodup := by
  unfold leaving
  refine nodup_flat (fun f => ?_) (fun f e he => ?_) _ ((range_up maxFiles).imp fun h => Nat.ne_of_lt h)
  · split
    · simp
    · have : (importsOf p f).Nodup := (G.up f).imp fun h => Nat.ne_of_lt h
      refine List.pairwise_map.mpr ((this.filter _).imp fun hn z => hn ?_)
      exact (Prod.mk.inj z).2
  · split at he
    · simp at he
    · obtain ⟨b, _, rfl⟩ := List.mem_map.mp he
      rfl

/-! ### what the flow's residue reaches -/
/-- the steps on from a: along unused imports, back along used ones -/
def res (p : Project) (U : List Pr) (a : Nat) : List Nat := ((importsOf p a).filter fun b => doesExist p b && !decide ((a, b) ∈ U)) ++ (((List.range 10).filter (doesExist p)).filter fun b => decide ((b, a) ∈ U))
theorem mem_res {t : Nat} {p : Project} (w : PWf t p) {U : List Pr} (he : ∀ e ∈ U, Ed p e.1 e.2) {a b : Nat} : b ∈ res p U a ↔ (Ed p a b ∧ (a, b) ∉ U) ∨ (b, a) ∈ U := by
  unfold res
  rw [List.mem_append, List.mem_filter, List.mem_filter, List.mem_filter, List.mem_range]
  simp only [Bool.and_eq_true, Bool.not_eq_true', decide_eq_false_iff_not, decide_eq_true_eq]
  unfold Ed
  constructor
  · rintro (⟨h1, h2, h3⟩ | ⟨_, h⟩)
    · exact .inl ⟨⟨h1, h2⟩, h3⟩
    · exact .inr h
  · rintro (⟨⟨h1, h2⟩, h3⟩ | h)
    · exact .inl ⟨h1, h2, h3⟩
    · refine .inr ⟨?_, h⟩
      have := (he _ h).1
      have ex : doesExist p b = true := by
        cases e : fileAt p b with
        | none => rw [importsOf_none e] at this; simp at this
        | some x => exact doesExist_iff.mpr ⟨x, e⟩
      exact ⟨w.lt ex, ex⟩
theorem ed_exists {p : Project} {a b : Nat} (h : Ed p a b) : doesExist p a = true := by
  have := h.1
  cases e : fileAt p a with
  | none => rw [importsOf_none e] at this; simp at this
  | some x => exact doesExist_iff.mpr ⟨x, e⟩
/-- the side that the residue tells -/
structure Side (p : Project) (s t : Nat) (U : List Pr) (R : Nat → Bool) : Prop where
  hs : R s = true
  ht : R t = false
  cl : ∀ a, R a = true → ∀ b ∈ res p U a, R b = true
  least : ∀ T : Nat → Bool, T s = true → (∀ a, T a = true → ∀ b ∈ res p U a, T b = true) → ∀ a, R a = true → T a = true
  ex : ∀ a, R a = true → doesExist p a = true
theorem onesOf_le {m m' : Nat} (h : ∀ i, i < 10 → m.testBit i = true → m'.testBit i = true) : onesOf m ≤ onesOf m' ∧ (onesOf m = onesOf m' → ∀ i, i < 10 → m'.testBit i = true → m.testBit i = true) := by
  unfold onesOf
  have nd : ∀ q : Nat → Bool, ((List.range maxFiles).filter q).Nodup := fun q => ((range_up maxFiles).imp fun h => Nat.ne_of_lt h).filter _
  have sub : ∀ x ∈ (List.range maxFiles).filter m.testBit, x ∈ (List.range maxFiles).filter m'.testBit := fun x hx => by
    obtain ⟨h1, h2⟩ := List.mem_filter.mp hx
    exact List.mem_filter.mpr ⟨h1, h x (by simpa [maxFiles] using h1) h2⟩
  refine ⟨nodup_sub_len _ _ (nd _) sub, fun e i hi hb => ?_⟩
  have := nodup_sub_all (nd m.testBit) sub (by omega) i (List.mem_filter.mpr ⟨by simpa [maxFiles] using hi, hb⟩)
  exact (List.mem_filter.mp this).2
/-- any side lets out at least so many; with just so many it holds the residue's side -/
theorem side_least {tk : Nat} {p : Project} (w : PWf tk p) {s t k : Nat} {U : List Pr} (F : Flow p s t U k) {R : Nat → Bool} (sd : Side p s t U R) {m : Nat} (hs : m.testBit s = true) (ht : m.testBit t = false) :
    k ≤ (leaving p m).length ∧ ((leaving p m).length = k → ∀ a, R a = true → m.testBit a = true) := by
  have hv := F.val m.testBit hs ht
  rw [cross_eq] at hv
  have nd : (outOf U m.testBit).Nodup := F.nd.filter _
  have sub : ∀ e ∈ outOf U m.testBit, e ∈ leaving p m := fun e he => by
    obtain ⟨h1, h2⟩ := List.mem_filter.mp he
    simp at h2
    exact mem_leaving.mpr ⟨w.lt (ed_exists (F.ed e h1)), h2.1, F.ed e h1, h2.2⟩
  have le := nodup_sub_len _ _ nd sub
  refine ⟨by omega, fun e => ?_⟩
  have hin : (into U m.testBit).length = 0 := by omega
  have hin' : ∀ e ∈ U, ¬ (m.testBit e.1 = false ∧ m.testBit e.2 = true) := fun e he h => by
    have : e ∈ into U m.testBit := List.mem_filter.mpr ⟨he, by simp [h.1, h.2]⟩
    rw [List.eq_nil_of_length_eq_zero hin] at this
    simp at this
  have all := nodup_sub_all nd sub (by omega)
  refine sd.least m.testBit hs fun a ha b hb => ?_
  rcases (mem_res w F.ed).mp hb with ⟨h1, h2⟩ | h
  · cases c : m.testBit b with
    | true => rfl
    | false =>
      have := all (a, b) (mem_leaving.mpr ⟨w.lt (ed_exists h1), ha, h1, c⟩)
      exact absurd (List.mem_filter.mp this).1 h2
  · cases c : m.testBit b with
    | true => rfl
    | false => exact absurd ⟨c, ha⟩ (hin' _ h)
/-- the residue's side lets out just so many -/
theorem side_exact {tk : Nat} {p : Project} (w : PWf tk p) {s t k : Nat} {U : List Pr} (F : Flow p s t U k) {R : Nat → Bool} (sd : Side p s t U R) (hlt : t < 10) {m : Nat} (hm : ∀ i, i < 10 → m.testBit i = R i) : (leaving p m).length = k := by
  have hs : m.testBit s = true := by rw [hm s (w.lt (sd.ex s sd.hs))]; exact sd.hs
  have ht : m.testBit t = false := by rw [hm t hlt]; exact sd.ht
  have hv := F.val m.testBit hs ht
  rw [cross_eq] at hv
  have bit : ∀ a, doesExist p a = true → m.testBit a = R a := fun a ha => hm a (w.lt ha)
  have hin : into U m.testBit = [] := by
    refine List.filter_eq_nil_iff.mpr fun e he h => ?_
    simp at h
    have e1 := ed_exists (F.ed e he)
    have e2 := (F.ed e he).2
    rw [bit _ e1] at h
    rw [bit _ e2] at h
    have := sd.cl e.2 h.2 e.1 ((mem_res w F.ed).mpr (.inr he))
    rw [h.1] at this
    cases this
  have sub1 : ∀ e ∈ outOf U m.testBit, e ∈ leaving p m := fun e he => by
    obtain ⟨h1, h2⟩ := List.mem_filter.mp he
    simp at h2
    exact mem_leaving.mpr ⟨w.lt (ed_exists (F.ed e h1)), h2.1, F.ed e h1, h2.2⟩
  have sub2 : ∀ e ∈ leaving p m, e ∈ outOf U m.testBit := fun e he => by
    obtain ⟨h1, h2, h3, h4⟩ := mem_leaving.mp he
    by_cases c : e ∈ U
    · exact List.mem_filter.mpr ⟨c, by simp [h2, h4]⟩
    · have := sd.cl e.1 (by rw [← bit _ (ed_exists h3)]; exact h2) e.2 ((mem_res w F.ed).mpr (.inl ⟨h3, c⟩))
      rw [← bit _ h3.2, h4] at this
      cases this
  have l1 : (outOf U m.testBit).length ≤ (leaving p m).length := nodup_sub_len _ _ (F.nd.filter _ : (outOf U m.testBit).Nodup) sub1
  have l2 := nodup_sub_len _ _ (leaving_nodup w.graph m) sub2
  rw [hin, List.length_nil] at hv
  omega

/-! ### the specification's search -/
/-- which one is better -/
def better (f : Nat → Nat × Nat) (m m' : Nat) : Prop := (f m).1 < (f m').1 ∨ ((f m).1 = (f m').1 ∧ (f m).2 < (f m').2)
theorem fold_best (f : Nat → Nat × Nat) {m0 : Nat} : ∀ (l : List Nat) (b : Option (Nat × Nat × Nat)), (∀ m ∈ l, m ≠ m0 → better f m0 m) → ((b = some ((f m0).1, (f m0).2, m0)) ∨ (m0 ∈ l ∧ ∀ z, b = some z → ∃ m, z = ((f m).1, (f m).2, m) ∧ m ≠ m0 ∧ better f m0 m)) →
    l.foldl (fun (best : Option (Nat × Nat × Nat)) m => match best with
      | none => some ((f m).1, (f m).2, m)
      | some z => if (f m).1 < z.1 ∨ ((f m).1 = z.1 ∧ (f m).2 < z.2.1) then some ((f m).1, (f m).2, m) else best) b = some ((f m0).1, (f m0).2, m0)
  | [], b, _, h => by
    rcases h with h | h
    · exact h
    · simp at h
  | m :: l, b, hl, h => by
    rw [List.foldl_cons]
    refine fold_best f l _ (fun m' hm' => hl m' (by simp [hm'])) ?_
    by_cases c : m = m0
    · subst c
      left
      rcases h with h | ⟨_, h⟩
      · subst h
        show (if (f m).1 < (f m).1 ∨ ((f m).1 = (f m).1 ∧ (f m).2 < (f m).2) then some ((f m).1, (f m).2, m) else some ((f m).1, (f m).2, m)) = _
        split <;> rfl
      · cases b with
        | none => rfl
        | some z =>
          obtain ⟨m', rfl, _, hb⟩ := h z rfl
          show (if (f m).1 < (f m').1 ∨ ((f m).1 = (f m').1 ∧ (f m).2 < (f m').2) then some ((f m).1, (f m).2, m) else _) = _
          exact if_pos hb
    · have hb := hl m (by simp) c
      rcases h with h | ⟨h0, h⟩
      · left
        subst h
        show (if (f m).1 < (f m0).1 ∨ ((f m).1 = (f m0).1 ∧ (f m).2 < (f m0).2) then some ((f m).1, (f m).2, m) else some ((f m0).1, (f m0).2, m0)) = _
        rw [if_neg]
        unfold better at hb
        omega
      · right
        refine ⟨(List.mem_cons.mp h0).resolve_left fun z => c z.symm, fun z hz => ?_⟩
        cases b with
        | none =>
          cases hz
          exact ⟨m, rfl, c, hb⟩
        | some z' =>
          obtain ⟨m', rfl, h1, h2⟩ := h z' rfl
          have hz : (if (f m).1 < (f m').1 ∨ ((f m).1 = (f m').1 ∧ (f m).2 < (f m').2) then some ((f m).1, (f m).2, m) else some ((f m').1, (f m').2, m')) = some z := hz
          split at hz
          · cases hz
            exact ⟨m, rfl, c, hb⟩
          · cases hz
            exact ⟨m', rfl, h1, h2⟩
theorem cutOf_eq {tk : Nat} {p : Project} (w : PWf tk p) {s t k : Nat} {U : List Pr} (F : Flow p s t U k) {R : Nat → Bool} (sd : Side p s t U R) (hlt : t < 10) {m : Nat} (hm : m < 2 ^ 10) (hb : ∀ i, i < 10 → m.testBit i = R i) : cutOf p s t = some (m, leaving p m) := by
  have hs : m.testBit s = true := by rw [hb s (w.lt (sd.ex s sd.hs))]; exact sd.hs
  have ht : m.testBit t = false := by rw [hb t hlt]; exact sd.ht
  have hk := side_exact w F sd hlt hb
  have mem : m ∈ sidesOf s t := List.mem_filter.mpr ⟨List.mem_range.mpr hm, by simp [hs, ht]⟩
  unfold cutOf
  have := fold_best (fun m => ((leaving p m).length, onesOf m)) (m0 := m) (sidesOf s t) none (fun m' hm' ne => ?_) (.inr ⟨mem, fun z hz => by cases hz⟩)
  · exact congrArg (Option.map fun z : Nat × Nat × Nat => (z.2.2, leaving p z.2.2)) this
  · obtain ⟨h1, h2⟩ := List.mem_filter.mp hm'
    simp at h2
    obtain ⟨g1, g2⟩ := side_least w F sd h2.1 h2.2
    unfold better
    show (leaving p m).length < (leaving p m').length ∨ ((leaving p m).length = (leaving p m').length ∧ onesOf m < onesOf m')
    by_cases c : (leaving p m').length = k
    · right
      refine ⟨by omega, ?_⟩
      have hsub : ∀ i, i < 10 → m.testBit i = true → m'.testBit i = true := fun i hi hbit => g2 c i (by rw [← hb i hi]; exact hbit)
      obtain ⟨o1, o2⟩ := onesOf_le hsub
      rcases Nat.lt_or_eq_of_le o1 with q | q
      · exact q
      · exfalso
        refine ne (mask_eq (List.mem_range.mp h1) hm fun i hi => ?_)
        have a := hsub i hi
        have b := o2 q i hi
        cases h3 : m.testBit i <;> cases h4 : m'.testBit i
        · rfl
        · exact absurd (b h4) (by rw [h3]; decide)
        · exact absurd (a h3) (by rw [h4]; decide)
        · rfl
    · left
      omega
end Sf
/-! M9: a search through the residue: simple walks. -/
namespace Sf
open Vbjbaj

/-- walks found from s, by their ends; gone through: dn -/
structure Rf (nx : Nat → List Nat) (s : Nat) (dn td : List (List Nat)) : Prop where
  fst : [s] ∈ dn ++ td
  wk : ∀ w ∈ dn ++ td, Wk nx s w ∧ w.Nodup ∧ ∀ x ∈ w, x ∈ (dn ++ td).map lst
  nd : ((dn ++ td).map lst).Nodup
  par : ∀ w ∈ dn ++ td, w = [s] ∨ ∃ u ∈ dn ++ td, ∃ v, w = u ++ [v]
  cl : ∀ u ∈ dn, ∀ v ∈ nx (lst u), v ∈ (dn ++ td).map lst
theorem Rf.start (nx : Nat → List Nat) (s : Nat) : Rf nx s [] [[s]] := by
  refine ⟨by simp, fun w hw => ?_, by simp, fun w hw => ?_, by simp⟩
  · simp at hw
    subst hw
    exact ⟨.one, by simp, fun x hx => by simpa [lst] using hx⟩
  · simp at hw
    exact .inl hw
/-- while the steps vs of the walk u are gone through -/
structure RfIn (nx : Nat → List Nat) (s : Nat) (dn : List (List Nat)) (u : List Nat) (td : List (List Nat)) (vs : List Nat) : Prop where
  fst : [s] ∈ dn ++ u :: td
  wk : ∀ w ∈ dn ++ u :: td, Wk nx s w ∧ w.Nodup ∧ ∀ x ∈ w, x ∈ (dn ++ u :: td).map lst
  nd : ((dn ++ u :: td).map lst).Nodup
  par : ∀ w ∈ dn ++ u :: td, w = [s] ∨ ∃ u' ∈ dn ++ u :: td, ∃ v, w = u' ++ [v]
  cl : ∀ u' ∈ dn, ∀ v ∈ nx (lst u'), v ∈ (dn ++ u :: td).map lst
  clu : ∀ v ∈ vs, v ∈ (dn ++ u :: td).map lst
theorem Rf.into {nx : Nat → List Nat} {s : Nat} {dn td : List (List Nat)} {u : List Nat} (b : Rf nx s dn (u :: td)) : RfIn nx s dn u td [] := ⟨b.fst, b.wk, b.nd, b.par, b.cl, by simp⟩
theorem RfIn.out {nx : Nat → List Nat} {s : Nat} {dn td : List (List Nat)} {u : List Nat} (b : RfIn nx s dn u td (nx (lst u))) : Rf nx s (dn ++ [u]) td := by
  have e : (dn ++ [u]) ++ td = dn ++ u :: td := by simp
  refine ⟨by rw [e]; exact b.fst, by rw [e]; exact b.wk, by rw [e]; exact b.nd, by rw [e]; exact b.par, ?_⟩
  rw [e]
  intro u' hu' v hv
  rcases List.mem_append.mp hu' with h | h
  · exact b.cl u' h v hv
  · simp at h
    subst h
    exact b.clu v hv
theorem RfIn.skip {nx : Nat → List Nat} {s v : Nat} {dn td : List (List Nat)} {u vs : List Nat} (b : RfIn nx s dn u td vs) (hk : v ∈ (dn ++ u :: td).map lst) : RfIn nx s dn u td (vs ++ [v]) :=
  ⟨b.fst, b.wk, b.nd, b.par, b.cl, fun x hx => by
    rcases List.mem_append.mp hx with h | h
    · exact b.clu x h
    · simp at h
      subst h
      exact hk⟩
theorem RfIn.more {nx : Nat → List Nat} {s v : Nat} {dn td : List (List Nat)} {u vs : List Nat} (b : RfIn nx s dn u td vs) (hk : v ∉ (dn ++ u :: td).map lst) (hv : v ∈ nx (lst u)) : RfIn nx s dn u (td ++ [u ++ [v]]) (vs ++ [v]) := by
  have e : dn ++ u :: (td ++ [u ++ [v]]) = (dn ++ u :: td) ++ [u ++ [v]] := by simp
  have em : (dn ++ u :: (td ++ [u ++ [v]])).map lst = (dn ++ u :: td).map lst ++ [v] := by rw [e, List.map_append]; simp [lst_snoc]
  obtain ⟨w1, w2, w3⟩ := b.wk u (by simp)
  refine ⟨by rw [e]; exact List.mem_append_left _ b.fst, fun w hw => ?_, ?_, fun w hw => ?_, fun u' hu' x hx => ?_, fun x hx => ?_⟩
  · rw [e] at hw
    rw [em]
    rcases List.mem_append.mp hw with h | h
    · obtain ⟨q1, q2, q3⟩ := b.wk w h
      exact ⟨q1, q2, fun x hx => List.mem_append_left _ (q3 x hx)⟩
    · simp at h
      subst h
      refine ⟨.snoc w1 hv, ?_, fun x hx => ?_⟩
      · rw [List.nodup_append]
        refine ⟨w2, by simp, fun x hx y hy z => ?_⟩
        simp at hy
        subst hy z
        exact hk (w3 x hx)
      · rcases List.mem_append.mp hx with h | h
        · exact List.mem_append_left _ (w3 x h)
        · exact List.mem_append_right _ h
  · rw [em, List.nodup_append]
    refine ⟨b.nd, by simp, fun x hx y hy z => ?_⟩
    simp at hy
    subst hy z
    exact hk hx
  · rw [e] at hw ⊢
    rcases List.mem_append.mp hw with h | h
    · exact (b.par w h).imp_right fun ⟨u', h1, x, h2⟩ => ⟨u', List.mem_append_left _ h1, x, h2⟩
    · simp at h
      exact .inr ⟨u, by simp, v, h⟩
  · rw [em]
    exact List.mem_append_left _ (b.cl u' hu' x hx)
  · rw [em]
    rcases List.mem_append.mp hx with h | h
    · exact List.mem_append_left _ (b.clu x h)
    · exact List.mem_append_right _ h
/-- the number ahead of a walk's end -/
def prv (w : List Nat) : Nat := if w.length ≤ 1 then lst w else lst w.dropLast
theorem prv_snoc {u : List Nat} {v : Nat} (h : u ≠ []) : prv (u ++ [v]) = lst u := by
  unfold prv
  have : 0 < u.length := by cases u with
    | nil => exact absurd rfl h
    | cons a r => simp
  rw [if_neg (by simp; omega), List.dropLast_concat]
theorem prv_one (s : Nat) : prv [s] = s := rfl
theorem Wk.head {nx : Nat → List Nat} {s : Nat} {w : List Nat} (h : Wk nx s w) : w.head? = some s := by
  induction h with
  | one => rfl
  | @snoc w v h _ ih =>
    cases w with
    | nil => exact absurd rfl h.ne
    | cons a r => exact ih
/-- all is on the way -/
theorem Rf.prefix {nx : Nat → List Nat} {s : Nat} {ws : List (List Nat)} (b : ∀ w ∈ ws, w = [s] ∨ ∃ u ∈ ws, ∃ v, w = u ++ [v]) : ∀ (n : Nat) (w : List Nat), w ∈ ws → w.length = n → ∀ i, i < n → w.take (i + 1) ∈ ws := by
  intro n
  induction n using Nat.strongRecOn with
  | ind n ih =>
    intro w hw hl i hi
    by_cases c : i + 1 = n
    · rw [List.take_of_length_le (by omega)]
      exact hw
    · rcases b w hw with h | ⟨u, h1, v, h2⟩
      · subst h
        simp at hl
        omega
      · subst h2
        simp at hl
        have := ih u.length (by omega) u h1 rfl i (by omega)
        rw [List.take_append_of_le_length (by omega)]
        exact this
theorem steps_snoc {p : Project} {U : List Pr} {v : Nat} : ∀ {w : List Nat}, w ≠ [] → Steps p U w → ((v, lst w) ∈ U ∨ ((lst w, v) ∉ U ∧ Ed p (lst w) v)) → Steps p U (w ++ [v])
  | [], h, _, _ => absurd rfl h
  | [a], _, _, h => ⟨h, trivial⟩
  | a :: b :: r, _, s, h => by
    refine ⟨s.1, ?_⟩
    have := steps_snoc (v := v) (w := b :: r) (by simp) s.2 (by rw [lst_cons] at h; exact h)
    exact this
theorem wk_steps {tk : Nat} {p : Project} (pw : PWf tk p) {U : List Pr} (he : ∀ e ∈ U, Ed p e.1 e.2) {s : Nat} {w : List Nat} (h : Wk (res p U) s w) : Steps p U w := by
  induction h with
  | one => exact trivial
  | @snoc w v h hv ih =>
    refine steps_snoc h.ne ih ?_
    rcases (mem_res pw he).mp hv with ⟨h1, h2⟩ | h
    · exact .inr ⟨h2, h1⟩
    · exact .inl h
theorem res_exists {tk : Nat} {p : Project} (pw : PWf tk p) {U : List Pr} (he : ∀ e ∈ U, Ed p e.1 e.2) {a b : Nat} (h : b ∈ res p U a) : doesExist p b = true := by
  rcases (mem_res pw he).mp h with ⟨h1, _⟩ | h
  · exact h1.2
  · exact ed_exists (he _ h)
theorem wk_exists {tk : Nat} {p : Project} (pw : PWf tk p) {U : List Pr} (he : ∀ e ∈ U, Ed p e.1 e.2) {s : Nat} (hs : doesExist p s = true) {w : List Nat} (h : Wk (res p U) s w) : doesExist p (lst w) = true := by
  cases h with
  | one => exact hs
  | snoc _ hv => rw [lst_snoc]; exact res_exists pw he hv
theorem Rf.size {tk : Nat} {p : Project} (pw : PWf tk p) {U : List Pr} (he : ∀ e ∈ U, Ed p e.1 e.2) {s : Nat} (hs : doesExist p s = true) {dn td : List (List Nat)} (b : Rf (res p U) s dn td) : (dn ++ td).length ≤ 10 := by
  have := lt_of_nodup 10 _ b.nd fun x hx => by
    obtain ⟨w, hw, e⟩ := List.mem_map.mp hx
    rw [← e]
    exact pw.lt (wk_exists pw he hs (b.wk w hw).1)
  simpa using this
theorem RfIn.size {tk : Nat} {p : Project} (pw : PWf tk p) {U : List Pr} (he : ∀ e ∈ U, Ed p e.1 e.2) {s : Nat} (hs : doesExist p s = true) {dn td : List (List Nat)} {u vs : List Nat} (b : RfIn (res p U) s dn u td vs) : (dn ++ u :: td).length ≤ 10 := by
  have := lt_of_nodup 10 _ b.nd fun x hx => by
    obtain ⟨w, hw, e⟩ := List.mem_map.mp hx
    rw [← e]
    exact pw.lt (wk_exists pw he hs (b.wk w hw).1)
  simpa using this
theorem Rf.side {tk : Nat} {p : Project} (pw : PWf tk p) {U : List Pr} (he : ∀ e ∈ U, Ed p e.1 e.2) {s t : Nat} (hs : doesExist p s = true) {dn : List (List Nat)} (b : Rf (res p U) s dn []) (ht : t ∉ dn.map lst) {R : List Nat} (hR : ∀ x, x ∈ dn.map lst ↔ x ∈ R) : Side p s t U fun x => decide (x ∈ R) := by
  have fs := b.fst
  have wk := b.wk
  have cl := b.cl
  rw [List.append_nil] at fs wk cl
  refine ⟨?_, ?_, fun a ha v hv => ?_, fun T hT hc a ha => ?_, fun a ha => ?_⟩
  · rw [decide_eq_true_eq, ← hR]
    exact List.mem_map.mpr ⟨_, fs, rfl⟩
  · rw [decide_eq_false_iff_not, ← hR]
    exact ht
  · rw [decide_eq_true_eq, ← hR] at ha
    obtain ⟨u, hu, e⟩ := List.mem_map.mp ha
    rw [decide_eq_true_eq, ← hR]
    exact cl u hu v (e ▸ hv)
  · rw [decide_eq_true_eq, ← hR] at ha
    obtain ⟨u, hu, rfl⟩ := List.mem_map.mp ha
    have := (wk u hu).1
    clear hu ha
    induction this with
    | one => exact hT
    | snoc _ hv ih => rw [lst_snoc]; exact hc _ ih _ hv
  · rw [decide_eq_true_eq, ← hR] at ha
    obtain ⟨u, hu, rfl⟩ := List.mem_map.mp ha
    exact wk_exists pw he hs (wk u hu).1
theorem flow_len {p : Project} {tk : Nat} (pw : PWf tk p) {U : List Pr} (nd : U.Nodup) (he : ∀ e ∈ U, Ed p e.1 e.2) : U.length ≤ 100 := by
  have := nodup_sub_len U ((List.range 10).flatMap fun a => (List.range 10).map fun b => (a, b)) nd fun e h => by
    obtain ⟨h1, h2⟩ := he e h
    refine List.mem_flatMap.mpr ⟨e.1, List.mem_range.mpr (pw.lt (ed_exists ⟨h1, h2⟩)), List.mem_map.mpr ⟨e.2, List.mem_range.mpr (pw.lt h2), rfl⟩⟩
  exact this
theorem aug_len (U : List Pr) (a b : Nat) : (augStep U a b).length ≤ U.length + 1 := by
  unfold augStep
  split
  · exact Nat.le_succ_of_le (List.length_filter_le _ U)
  · split <;> simp
end Sf
/-! M7: rings. -/
namespace Sf
open Vbjbaj
def ringAt (p : Project) (f : Nat) : List Nat := (visible p f).filter fun g => decide (f ∈ visible p g)
def ringIf (p : Project) (f : Nat) : Option (List Nat) := if (ringAt p f).headD f = f ∧ (1 < (ringAt p f).length ∨ (importsOf p f).contains f = true) then some (ringAt p f) else none
theorem filterMap_filter' {α β : Type} (P : α → Bool) (g : α → Option β) : ∀ l : List α, (l.filter P).filterMap g = l.filterMap fun a => if P a = false then none else g a
  | [] => rfl
  | a :: l => by
    cases c : P a with
    | true => rw [List.filter_cons_of_pos c, List.filterMap_cons, List.filterMap_cons, if_neg (by simp [c]), filterMap_filter' P g l]
    | false => rw [List.filter_cons_of_neg (by simp [c]), List.filterMap_cons, if_pos c, filterMap_filter' P g l]
theorem ringsOf_eq (p : Project) : ringsOf p = ((List.range 10).filter (doesExist p)).filterMap (ringIf p) := by
  rw [filterMap_filter']
  unfold ringsOf
  refine congrFun (congrArg _ (funext fun f => ?_)) _
  have e : ((visible p f).filter fun g => (visible p g).contains f) = ringAt p f := by
    unfold ringAt
    refine List.filter_congr fun g _ => ?_
    rw [List.contains_eq_mem]
  unfold ringIf
  rw [← e]
theorem ringAt_up {p : Project} {f : Nat} : (ringAt p f).Pairwise (· < ·) := List.Pairwise.filter _ (List.Pairwise.filter _ reached_up)
section
variable {t : Nat} {p : Project} (w : PWf t p)
include w
theorem mem_vis {f g : Nat} (hf : doesExist p f = true) : g ∈ visible p f ↔ Rch (importsOf p) f g ∧ doesExist p g = true := by
  unfold visible
  rw [List.mem_filter, mem_reached w.graph (w.lt hf)]
theorem mem_ring {f g : Nat} (hf : doesExist p f = true) : g ∈ ringAt p f ↔ doesExist p g = true ∧ Rch (importsOf p) f g ∧ Rch (importsOf p) g f := by
  unfold ringAt
  rw [List.mem_filter, mem_vis w hf, decide_eq_true_eq]
  constructor
  · rintro ⟨⟨h1, h2⟩, h3⟩
    exact ⟨h2, h1, ((mem_vis w h2).mp h3).1⟩
  · rintro ⟨h1, h2, h3⟩
    exact ⟨⟨h2, h1⟩, (mem_vis w h1).mpr ⟨h3, hf⟩⟩
theorem ring_self {f : Nat} (hf : doesExist p f = true) : f ∈ ringAt p f := (mem_ring w hf).mpr ⟨hf, .refl, .refl⟩
theorem ring_symm {f g : Nat} (hf : doesExist p f = true) (h : g ∈ ringAt p f) : f ∈ ringAt p g := by
  obtain ⟨h1, h2, h3⟩ := (mem_ring w hf).mp h
  exact (mem_ring w h1).mpr ⟨hf, h3, h2⟩
theorem ring_trans {f g x : Nat} (hf : doesExist p f = true) (h : g ∈ ringAt p f) (h' : x ∈ ringAt p g) : x ∈ ringAt p f := by
  obtain ⟨h1, h2, h3⟩ := (mem_ring w hf).mp h
  obtain ⟨h4, h5, h6⟩ := (mem_ring w h1).mp h'
  exact (mem_ring w hf).mpr ⟨h4, h2.trans h5, h6.trans h3⟩
/-- a file is the first one of its ring if no ring of an earlier one holds it -/
theorem ring_first {f : Nat} (hf : doesExist p f = true) : (ringAt p f).headD f = f ↔ ¬ ∃ g, doesExist p g = true ∧ g < f ∧ f ∈ ringAt p g := by
  have hs := ring_self w hf
  have up := ringAt_up (p := p) (f := f)
  cases e : ringAt p f with
  | nil => rw [e] at hs; simp at hs
  | cons a r =>
    show a = f ↔ _
    rw [e] at hs up
    have ha : a ∈ ringAt p f := by rw [e]; simp
    have le : a ≤ f := by
      rcases List.mem_cons.mp hs with h | h
      · omega
      · exact Nat.le_of_lt ((List.pairwise_cons.mp up).1 f h)
    constructor
    · rintro rfl ⟨g, h1, h2, h3⟩
      have := ring_symm w h1 h3
      rw [e] at this
      rcases List.mem_cons.mp this with h | h
      · omega
      · have := (List.pairwise_cons.mp up).1 g h
        omega
    · intro h
      by_cases c : a = f
      · exact c
      · exact absurd ⟨a, ((mem_ring w hf).mp ha).1, by omega, ring_symm w hf ha⟩ h
end
end Sf
/-! M10: the file from three lists. -/
namespace Sf
open Vbjbaj
def isStI (t : Nat) (x : Int × Int × Int) : Bool := decide (0 ≤ x.1 ∧ x.1 ≤ 2) && (decide (0 ≤ x.2.1 ∧ x.2.1 ≤ 2 * (t : Int) - 1) && decide (0 ≤ x.2.2 ∧ x.2.2 ≤ (if x.1 = 0 then 2 else 2 * (t : Int) - 1)))
def stI : List Int → List (Int × Int × Int)
  | a :: b :: c :: r => (a, b, c) :: stI r
  | _ => []
def toSt (x : Int × Int × Int) : Statement := ⟨x.1.toNat, x.2.1.toNat, x.2.2.toNat⟩
theorem triples_eq : ∀ l : List Int, triplesIn (nats l) = (stI l).map toSt
  | [] => rfl
  | [_] => rfl
  | [_, _] => rfl
  | a :: b :: c :: r => by
    show (⟨_, _, _⟩ : Statement) :: triplesIn (nats r) = _
    rw [triples_eq r]
    rfl
theorem stI_len : ∀ l : List Int, (stI l).length = l.length / 3
  | [] => rfl
  | [_] => by simp [stI]
  | [_, _] => by simp [stI]
  | a :: b :: c :: r => by
    show (stI r).length + 1 = _
    rw [stI_len r]
    simp only [List.length_cons]
    omega
theorem stI_at : ∀ (l : List Int) (i : Nat) (a b c : Int), l[3 * i]? = some a → l[3 * i + 1]? = some b → l[3 * i + 2]? = some c → (stI l)[i]? = some (a, b, c)
  | [], i, a, b, c, h, _, _ => by simp at h
  | [_], i, a, b, c, _, h, _ => by simp at h
  | [_, _], i, a, b, c, _, _, h => by simp at h
  | x :: y :: z :: r, 0, a, b, c, h1, h2, h3 => by
    have e1 : x = a := Option.some.inj h1
    have e2 : y = b := Option.some.inj h2
    have e3 : z = c := Option.some.inj h3
    subst e1 e2 e3
    rfl
  | x :: y :: z :: r, i + 1, a, b, c, h1, h2, h3 => by
    have : ∀ k, (x :: y :: z :: r)[3 * (i + 1) + k]? = r[3 * i + k]? := fun k => by
      rw [show 3 * (i + 1) + k = (3 * i + k) + 1 + 1 + 1 by omega]
      rfl
    exact stI_at r i a b c ((this 0).symm.trans h1) ((this 1).symm.trans h2) ((this 2).symm.trans h3)
theorem stI_mem : ∀ (l : List Int), ∀ x ∈ stI l, x.1 ∈ l ∧ x.2.1 ∈ l ∧ x.2.2 ∈ l
  | [], x, h => by simp [stI] at h
  | [_], x, h => by simp [stI] at h
  | [_, _], x, h => by simp [stI] at h
  | a :: b :: c :: r, x, h => by
    rcases List.mem_cons.mp h with h | h
    · subst h; simp
    · obtain ⟨h1, h2, h3⟩ := stI_mem r x h
      simp [h1, h2, h3]
theorem mem_stI : ∀ (l : List Int), l.length % 3 = 0 → ∀ z ∈ l, ∃ x ∈ stI l, z = x.1 ∨ z = x.2.1 ∨ z = x.2.2
  | [], _, z, h => by simp at h
  | [_], h, _, _ => by simp at h
  | [_, _], h, _, _ => by simp at h
  | a :: b :: c :: r, h, z, hz => by
    have h' : r.length % 3 = 0 := by simp only [List.length_cons] at h; omega
    by_cases q : z ∈ r
    · obtain ⟨x, h1, h2⟩ := mem_stI r h' z q
      exact ⟨x, List.mem_cons_of_mem _ h1, h2⟩
    · refine ⟨(a, b, c), List.mem_cons_self, ?_⟩
      simp only [List.mem_cons] at hz
      rcases hz with h | h | h | h
      · exact .inl h
      · exact .inr (.inl h)
      · exact .inr (.inr h)
      · exact absurd h q
def risI : List Int → Bool
  | a :: b :: r => decide (a < b) && risI (b :: r)
  | _ => true
theorem risI_at : ∀ (l : List Int), risI l = true ↔ ∀ i x y, l[i]? = some x → l[i + 1]? = some y → x < y
  | [] => by simp [risI]
  | [a] => by
    simp only [risI, true_iff]
    intro i x y h1 h2
    simp at h2
  | a :: b :: r => by
    have ih := risI_at (b :: r)
    simp only [risI, Bool.and_eq_true, decide_eq_true_eq]
    rw [ih]
    constructor
    · rintro ⟨h1, h2⟩ i x y e1 e2
      cases i with
      | zero =>
        have e1 : a = x := Option.some.inj e1
        have e2 : b = y := Option.some.inj e2
        omega
      | succ i => exact h2 i x y e1 e2
    · intro h
      exact ⟨h 0 a b rfl rfl, fun i x y e1 e2 => h (i + 1) x y e1 e2⟩
theorem rising_eq : ∀ (l : List Int), (∀ z ∈ l, 0 ≤ z) → isRising (nats l) = risI l
  | [], _ => rfl
  | [a], _ => rfl
  | a :: b :: r, h => by
    have h1 := h a (by simp)
    have h2 := h b (by simp)
    have e : decide (a.toNat < b.toNat) = decide (a < b) := decide_eq_decide.mpr (by omega)
    show (decide (a.toNat < b.toNat) && isRising (nats (b :: r))) = (decide (a < b) && risI (b :: r))
    rw [e, rising_eq (b :: r) fun z hz => h z (List.mem_cons_of_mem _ hz)]
/-- what the program asks of three lists -/
def okFile (t : Nat) (im st tx : List Int) : Bool :=
  (im.all fun z => decide (0 ≤ z ∧ z ≤ 9)) && (risI im && (decide (st.length % 3 = 0 ∧ st.length ≤ 36 ∧ tx.length ≤ 60) && ((stI st).all (isStI t) && tx.all fun z => decide (0 ≤ z ∧ z < (t : Int)))))
theorem isSt_eq {t : Nat} {x : Int × Int × Int} (h1 : 0 ≤ x.1) (h2 : 0 ≤ x.2.1) (h3 : 0 ≤ x.2.2) : isStatement t (toSt x) = isStI t x := by
  obtain ⟨a, b, c⟩ := x
  simp only at h1 h2 h3
  unfold isStatement isStI toSt
  simp only
  by_cases ha : a = 0
  · subst ha
    rw [Bool.eq_iff_iff]
    simp
    omega
  · have : ¬ a.toNat = 0 := by omega
    rw [if_neg this, if_neg ha, Bool.eq_iff_iff]
    simp
    omega
theorem fileFrom_eq {t : Nat} (ht : t ≤ 20) (im st tx : List Int) : fileFrom t im st tx = if okFile t im st tx = true then some ⟨nats im, triplesIn (nats st), nats tx⟩ else none := by
  have lt3 : (triplesIn (nats st)).length = st.length / 3 := by rw [triples_eq, List.length_map, stI_len]
  by_cases c : okFile t im st tx = true
  · rw [if_pos c]
    unfold okFile at c
    simp only [Bool.and_eq_true, decide_eq_true_eq, List.all_eq_true] at c
    obtain ⟨c1, c2, ⟨c3, c4, c5⟩, c6, c7⟩ := c
    have nn : ∀ x ∈ stI st, (0 ≤ x.1 ∧ x.1 ≤ 2) ∧ (0 ≤ x.2.1 ∧ x.2.1 ≤ 2 * (t : Int) - 1) ∧ (0 ≤ x.2.2 ∧ x.2.2 ≤ 39) := fun x hx => by
      have := c6 x hx
      unfold isStI at this
      simp only [Bool.and_eq_true, decide_eq_true_eq] at this
      obtain ⟨h1, h2, h3⟩ := this
      refine ⟨h1, h2, h3.1, ?_⟩
      have := h3.2
      split at this <;> omega
    unfold fileFrom
    have g : (st.length % 3 == 0 && (im ++ (st ++ tx)).all fun z => inRange z 0 100) = true := by
      rw [Bool.and_eq_true, List.all_eq_true]
      refine ⟨by simpa using c3, fun z hz => ?_⟩
      unfold inRange
      rw [Bool.and_eq_true, decide_eq_true_eq, decide_eq_true_eq]
      rcases List.mem_append.mp hz with h | h
      · have := c1 z h; omega
      · rcases List.mem_append.mp h with h | h
        · obtain ⟨x, hx, e⟩ := mem_stI st c3 z h
          obtain ⟨h1, h2, h3⟩ := nn x hx
          rcases e with e | e | e <;> omega
        · have := c7 z h; omega
    rw [if_neg (by rw [g]; decide)]
    refine if_pos ?_
    unfold isFile
    simp only [Bool.and_eq_true, decide_eq_true_eq, List.all_eq_true]
    refine ⟨by rw [rising_eq im fun z hz => (c1 z hz).1]; exact c2, fun f hf => ?_, by rw [lt3]; show _ ≤ 12; omega, fun s hs => ?_, by show (nats tx).length ≤ 60; unfold nats; rw [List.length_map]; exact c5, fun a ha => ?_⟩
    · obtain ⟨z, hz, rfl⟩ := List.mem_map.mp hf
      have := c1 z hz
      show _ < 10
      omega
    · rw [triples_eq] at hs
      obtain ⟨x, hx, rfl⟩ := List.mem_map.mp hs
      obtain ⟨h1, h2, h3⟩ := nn x hx
      rw [isSt_eq h1.1 h2.1 h3.1]
      exact c6 x hx
    · obtain ⟨z, hz, rfl⟩ := List.mem_map.mp ha
      have := c7 z hz
      omega
  · rw [if_neg c]
    unfold fileFrom
    split
    · rfl
    · rename_i g
      rw [Bool.not_eq_false] at g
      refine if_neg fun h => c ?_
      rw [Bool.and_eq_true, List.all_eq_true] at g
      obtain ⟨g1, g2⟩ := g
      have g3 : ∀ z, z ∈ im ∨ z ∈ st ∨ z ∈ tx → 0 ≤ z ∧ z ≤ 100 := fun z hz => by
        have := g2 z (by rcases hz with h | h | h <;> simp [h])
        unfold inRange at this
        rw [Bool.and_eq_true, decide_eq_true_eq, decide_eq_true_eq] at this
        exact this
      unfold isFile at h
      simp only [Bool.and_eq_true, decide_eq_true_eq, List.all_eq_true] at h
      obtain ⟨h1, h2, h3, h4, h5, h6⟩ := h
      rw [lt3] at h3
      have h3' : st.length / 3 ≤ 12 := h3
      have c3 : st.length % 3 = 0 := by simpa using g1
      unfold okFile
      simp only [Bool.and_eq_true, decide_eq_true_eq, List.all_eq_true]
      have h5' : (nats tx).length ≤ 60 := h5
      unfold nats at h5'
      rw [List.length_map] at h5'
      have h1' : risI im = true := by rw [← rising_eq im fun z hz => (g3 z (.inl hz)).1]; exact h1
      refine ⟨fun z hz => ?_, h1', ⟨c3, by omega, h5'⟩, fun x hx => ?_, fun z hz => ?_⟩
      · have := g3 z (.inl hz)
        have h2' : z.toNat < 10 := h2 _ (List.mem_map.mpr ⟨z, hz, rfl⟩)
        omega
      · obtain ⟨m1, m2, m3⟩ := stI_mem st x hx
        rw [← isSt_eq (g3 _ (.inr (.inl m1))).1 (g3 _ (.inr (.inl m2))).1 (g3 _ (.inr (.inl m3))).1]
        exact h4 _ (by rw [triples_eq]; exact List.mem_map.mpr ⟨x, hx, rfl⟩)
      · have := g3 z (.inr (.inr hz))
        have := h6 _ (List.mem_map.mpr ⟨z, hz, rfl⟩)
        omega
end Sf
/-! W0: the text by places; a def that is called by its name; constants. -/
namespace Sf
open PySem PySem.Spec PyProof.Rows L2

/-- the i-th statement of the program -/
def top (i : Nat) : Stmt := PySem.Challenge.pw_seenfiles_s01_answers.main.body.getD i (.Pass ⟨0, 0, 0, 0⟩)

/-- a def as its callers find it -/
def Cal (P : Program) (w : World) (K : PySem.W.Frag) (mg : Str → Option Value) (base : Heap) (CX : CXT) (k : Nat) (x : Str) (ps : List Str) (sp : Sp) : Prop :=
  ∃ (f : Addr) (fd : FuncData), mg x = some (.ref f) ∧ PySem.W.keepIn K (.ref f) = true ∧ Binds K fd ps [] ∧ FnOk P w K mg base CX k f fd ps sp
/-- a def of the text behind the top -/
def DefAt (K : PySem.W.Frag) (mg : Str → Option Value) (x : Str) (st : Stmt) (ps : List Str) : Prop :=
  ∃ (f : Addr) (fd : FuncData), mg x = some (.ref f) ∧ Fun K x x st f fd ∧ Binds K fd ps []
/-- a module's name that holds a plain value -/
def Glb (mg : Str → Option Value) (x : Str) (v : V) : Prop := ∃ u, mg x = some u ∧ RelV v u
section
variable {X : Cx} {CX : CXT} {k : Nat} {ps : List Str} {sp : Sp} {E : XK} {x : Str} {p pos : Pos} {e : Expr} {es : List Expr} {t : TA} {v : V}
theorem pe_cal (C : Cal X.prog X.w X.K X.mg X.base CX k x ps sp) (hr : Room k X.A) (hx : Passes CX X E) (ha : PA X (e :: es) t) (hg : Gl X x := by rfl)
    (hdb : (x == ("__debug__" : Str)) = false := by decide) (he : starEach (e :: es) X.env = (false, eval e X.env) :: starEach es X.env := by rfl) (hpl : (backTo pos (starEach es X.env)).any (·.1) = false := by rfl) :
    PE X (.Call (.Name x p) (e :: es) [] pos) (tCall sp [] E t) := by
  obtain ⟨f, fd, hm, hk, hb, F⟩ := C
  exact pe_call F hr hg hm hk hb .nil hx ha hdb he hpl
theorem pe_calS {E : L2.St → XK} (C : Cal X.prog X.w X.K X.mg X.base CX k x ps sp) (hr : Room k X.A) (hx : ∀ σ, PassesAt CX X σ (E σ)) (ha : PA X (e :: es) t) (hg : Gl X x := by rfl)
    (hdb : (x == ("__debug__" : Str)) = false := by decide) (he : starEach (e :: es) X.env = (false, eval e X.env) :: starEach es X.env := by rfl) (hpl : (backTo pos (starEach es X.env)).any (·.1) = false := by rfl) :
    PE X (.Call (.Name x p) (e :: es) [] pos) (tCallS sp E t) := by
  obtain ⟨f, fd, hm, hk, hb, F⟩ := C
  exact pe_callS F hr hg hm hk hb hx ha hdb he hpl
theorem pe_gl (h : Glb X.mg x v) (hg : Gl X x := by rfl) (hd : (x == ("__debug__" : Str)) = false := by decide) : PE X (.Name x p) (tC v) := by
  obtain ⟨u, hm, r⟩ := h
  exact pe_glob hg hm r hd
end
section
variable {P : Program} {w : World} {K : PySem.W.Frag} {mg : Str → Option Value} {base : Heap}
theorem Cal.mono {CX : CXT} {j k : Nat} {x : Str} {ps : List Str} {sp : Sp} (C : Cal P w K mg base CX j x ps sp) (h : j ≤ k) : Cal P w K mg base CX k x ps sp := by
  obtain ⟨f, fd, hm, hk, hb, F⟩ := C
  exact ⟨f, fd, hm, hk, hb, F.mono h⟩
theorem Cal.imp {CX : CXT} {k : Nat} {x : Str} {ps : List Str} {sp sp' : Sp} (C : Cal P w K mg base CX k x ps sp) (h : ∀ vs H Q E, sp' vs H Q E → sp vs H Q E) : Cal P w K mg base CX k x ps sp' := by
  obtain ⟨f, fd, hm, hk, hb, F⟩ := C
  exact ⟨f, fd, hm, hk, hb, F.imp h⟩
theorem cal_of {CX : CXT} {k : Nat} {x : Str} {st : Stmt} {ps : List Str} {sp : Sp} (D : DefAt K mg x st ps) (h : ∀ f fd, Fun K x x st f fd → FnOk P w K mg base CX k f fd ps sp) : Cal P w K mg base CX k x ps sp := by
  obtain ⟨f, fd, hm, F, hb⟩ := D
  exact ⟨f, fd, hm, F.kp, hb, h f fd F⟩
end

abbrev s_File_init : Stmt := inClass (top 4) 0
abbrev N_File_init : List Str := ["self", "imports", "statements", "text"]
theorem sc_File_init : FnScope N_File_init ["self", "imports", "statements", "text"] (defScope s_File_init) := ⟨rfl, rfl, rfl, by decide +kernel, rfl, by decide +kernel, by decide +kernel⟩
abbrev s_tokens_of : Stmt := top 5
abbrev N_tokens_of : List Str := ["statement"]
theorem sc_tokens_of : FnScope N_tokens_of ["statement"] (defScope s_tokens_of) := ⟨rfl, rfl, rfl, by decide +kernel, rfl, by decide +kernel, by decide +kernel⟩
abbrev s_next_numbers : Stmt := top 6
abbrev N_next_numbers : List Str := ["files", "number", "left", "other"]
theorem sc_next_numbers : FnScope N_next_numbers ["files", "number", "left"] (defScope s_next_numbers) := ⟨rfl, rfl, rfl, by decide +kernel, rfl, by decide +kernel, by decide +kernel⟩
abbrev s_paths_from : Stmt := top 7
abbrev N_paths_from : List Str := ["files", "number", "left", "found", "line", "here", "other"]
theorem sc_paths_from : FnScope N_paths_from ["files", "number", "left"] (defScope s_paths_from) := ⟨rfl, rfl, rfl, by decide +kernel, rfl, by decide +kernel, by decide +kernel⟩
abbrev s_seen : Stmt := top 8
abbrev N_seen : List Str := ["files", "number", "other"]
theorem sc_seen : FnScope N_seen ["files", "number"] (defScope s_seen) := ⟨rfl, rfl, rfl, by decide +kernel, rfl, by decide +kernel, by decide +kernel⟩
abbrev s_statements_seen : Stmt := top 9
abbrev N_statements_seen : List Str := ["files", "number", "found", "other", "statement"]
theorem sc_statements_seen : FnScope N_statements_seen ["files", "number"] (defScope s_statements_seen) := ⟨rfl, rfl, rfl, by decide +kernel, rfl, by decide +kernel, by decide +kernel⟩
abbrev s_joined : Stmt := top 10
abbrev N_joined : List Str := ["files", "number", "tokens", "some", "is_new", "statement", "own", "token", "one"]
theorem sc_joined : FnScope N_joined ["files", "number"] (defScope s_joined) := ⟨rfl, rfl, rfl, by decide +kernel, rfl, by decide +kernel, by decide +kernel⟩
abbrev s_key : Stmt := top 11
abbrev N_key : List Str := ["files", "number"]
theorem sc_key : FnScope N_key ["files", "number"] (defScope s_key) := ⟨rfl, rfl, rfl, by decide +kernel, rfl, by decide +kernel, by decide +kernel⟩
abbrev s_with_imports : Stmt := top 12
abbrev N_with_imports : List Str := ["files", "number", "imports", "found"]
theorem sc_with_imports : FnScope N_with_imports ["files", "number", "imports"] (defScope s_with_imports) := ⟨rfl, rfl, rfl, by decide +kernel, rfl, by decide +kernel, by decide +kernel⟩
abbrev s_rows_of : Stmt := top 13
abbrev N_rows_of : List Str := ["items", "size", "found", "at", "row"]
theorem sc_rows_of : FnScope N_rows_of ["items", "size"] (defScope s_rows_of) := ⟨rfl, rfl, rfl, by decide +kernel, rfl, by decide +kernel, by decide +kernel⟩
abbrev s_needed : Stmt := top 14
abbrev N_needed : List Str := ["files", "number", "others", "keys", "imports", "size", "row", "changed", "other"]
theorem sc_needed : FnScope N_needed ["files", "number"] (defScope s_needed) := ⟨rfl, rfl, rfl, by decide +kernel, rfl, by decide +kernel, by decide +kernel⟩
abbrev s_is_enough : Stmt := top 15
abbrev N_is_enough : List Str := ["files", "keys", "number", "other"]
theorem sc_is_enough : FnScope N_is_enough ["files", "keys", "number"] (defScope s_is_enough) := ⟨rfl, rfl, rfl, by decide +kernel, rfl, by decide +kernel, by decide +kernel⟩
abbrev s_rings : Stmt := top 16
abbrev N_rings : List Str := ["files", "sees", "found", "done", "number", "ring", "other"]
theorem sc_rings : FnScope N_rings ["files"] (defScope s_rings) := ⟨rfl, rfl, rfl, by decide +kernel, rfl, by decide +kernel, by decide +kernel⟩
abbrev s_flow_path : Stmt := top 17
abbrev N_flow_path : List Str := ["files", "used", "first", "last", "before", "line", "here", "ahead", "back", "other", "path"]
theorem sc_flow_path : FnScope N_flow_path ["files", "used", "first", "last"] (defScope s_flow_path) := ⟨rfl, rfl, rfl, by decide +kernel, rfl, by decide +kernel, by decide +kernel⟩
abbrev s_cut : Stmt := top 18
abbrev N_cut : List Str := ["files", "first", "last", "used", "path", "side", "at", "here", "there", "out", "number", "other"]
theorem sc_cut : FnScope N_cut ["files", "first", "last"] (defScope s_cut) := ⟨rfl, rfl, rfl, by decide +kernel, rfl, by decide +kernel, by decide +kernel⟩
abbrev s_Refused_init : Stmt := inClass (top 24) 0
abbrev N_Refused_init : List Str := ["self", "code"]
theorem sc_Refused_init : FnScope N_Refused_init ["self", "code"] (defScope s_Refused_init) := ⟨rfl, rfl, rfl, by decide +kernel, rfl, by decide +kernel, by decide +kernel⟩
abbrev s_need : Stmt := top 25
abbrev N_need : List Str := ["is_right", "code"]
theorem sc_need : FnScope N_need ["is_right", "code"] (defScope s_need) := ⟨rfl, rfl, rfl, by decide +kernel, rfl, by decide +kernel, by decide +kernel⟩
abbrev s_Project_init : Stmt := inClass (top 26) 0
abbrev N_Project_init : List Str := ["self", "tokens"]
theorem sc_Project_init : FnScope N_Project_init ["self", "tokens"] (defScope s_Project_init) := ⟨rfl, rfl, rfl, by decide +kernel, rfl, by decide +kernel, by decide +kernel⟩
abbrev s_Project_pending : Stmt := inClass (top 26) 1
abbrev N_Project_pending : List Str := ["self", "files", "at"]
theorem sc_Project_pending : FnScope N_Project_pending ["self", "files"] (defScope s_Project_pending) := ⟨rfl, rfl, rfl, by decide +kernel, rfl, by decide +kernel, by decide +kernel⟩
abbrev s_Project_change : Stmt := inClass (top 26) 2
abbrev N_Project_change : List Str := ["self", "files"]
theorem sc_Project_change : FnScope N_Project_change ["self", "files"] (defScope s_Project_change) := ⟨rfl, rfl, rfl, by decide +kernel, rfl, by decide +kernel, by decide +kernel⟩
abbrev s_Project_is_statement : Stmt := inClass (top 26) 3
abbrev N_Project_is_statement : List Str := ["self", "kind", "form", "other", "most"]
theorem sc_Project_is_statement : FnScope N_Project_is_statement ["self", "kind", "form", "other"] (defScope s_Project_is_statement) := ⟨rfl, rfl, rfl, by decide +kernel, rfl, by decide +kernel, by decide +kernel⟩
abbrev s_Project_file : Stmt := inClass (top 26) 4
abbrev N_Project_file : List Str := ["self", "rows", "imports", "numbers", "text", "some", "at", "number", "kind", "form", "other", "token"]
theorem sc_Project_file : FnScope N_Project_file ["self", "rows"] (defScope s_Project_file) := ⟨rfl, rfl, rfl, by decide +kernel, rfl, by decide +kernel, by decide +kernel⟩
abbrev s_listed : Stmt := top 27
abbrev N_listed : List Str := ["some"]
theorem sc_listed : FnScope N_listed ["some"] (defScope s_listed) := ⟨rfl, rfl, rfl, by decide +kernel, rfl, by decide +kernel, by decide +kernel⟩
abbrev s_flat : Stmt := top 28
abbrev N_flat : List Str := ["statements", "found", "statement"]
theorem sc_flat : FnScope N_flat ["statements"] (defScope s_flat) := ⟨rfl, rfl, rfl, by decide +kernel, rfl, by decide +kernel, by decide +kernel⟩
abbrev s_with_file : Stmt := top 29
abbrev N_with_file : List Str := ["project", "number", "rows", "found"]
theorem sc_with_file : FnScope N_with_file ["project", "number", "rows"] (defScope s_with_file) := ⟨rfl, rfl, rfl, by decide +kernel, rfl, by decide +kernel, by decide +kernel⟩
abbrev s_without_file : Stmt := top 30
abbrev N_without_file : List Str := ["project", "number", "found"]
theorem sc_without_file : FnScope N_without_file ["project", "number"] (defScope s_without_file) := ⟨rfl, rfl, rfl, by decide +kernel, rfl, by decide +kernel, by decide +kernel⟩
abbrev s_visible : Stmt := top 31
abbrev N_visible : List Str := ["project", "number", "reached", "there", "other"]
theorem sc_visible : FnScope N_visible ["project", "number"] (defScope s_visible) := ⟨rfl, rfl, rfl, by decide +kernel, rfl, by decide +kernel, by decide +kernel⟩
abbrev s_seers : Stmt := top 32
abbrev N_seers : List Str := ["project", "number", "at"]
theorem sc_seers : FnScope N_seers ["project", "number"] (defScope s_seers) := ⟨rfl, rfl, rfl, by decide +kernel, rfl, by decide +kernel, by decide +kernel⟩
abbrev s_path : Stmt := top 33
abbrev N_path : List Str := ["project", "first", "second", "found"]
theorem sc_path : FnScope N_path ["project", "first", "second"] (defScope s_path) := ⟨rfl, rfl, rfl, by decide +kernel, rfl, by decide +kernel, by decide +kernel⟩
abbrev s_relevant : Stmt := top 34
abbrev N_relevant : List Str := ["project", "number", "tokens", "some"]
theorem sc_relevant : FnScope N_relevant ["project", "number"] (defScope s_relevant) := ⟨rfl, rfl, rfl, by decide +kernel, rfl, by decide +kernel, by decide +kernel⟩
abbrev s_source : Stmt := top 35
abbrev N_source : List Str := ["project", "number", "statement", "paths", "some", "other"]
theorem sc_source : FnScope N_source ["project", "number", "statement"] (defScope s_source) := ⟨rfl, rfl, rfl, by decide +kernel, rfl, by decide +kernel, by decide +kernel⟩
abbrev s_read : Stmt := top 36
abbrev N_read : List Str := ["project", "number", "was_pending"]
theorem sc_read : FnScope N_read ["project", "number"] (defScope s_read) := ⟨rfl, rfl, rfl, by decide +kernel, rfl, by decide +kernel, by decide +kernel⟩
abbrev s_read_all : Stmt := top 37
abbrev N_read_all : List Str := ["project", "some", "number"]
theorem sc_read_all : FnScope N_read_all ["project"] (defScope s_read_all) := ⟨rfl, rfl, rfl, by decide +kernel, rfl, by decide +kernel, by decide +kernel⟩
abbrev s_reasons : Stmt := top 38
abbrev N_reasons : List Str := ["project", "number", "old", "now", "gained", "lost", "one"]
theorem sc_reasons : FnScope N_reasons ["project", "number"] (defScope s_reasons) := ⟨rfl, rfl, rfl, by decide +kernel, rfl, by decide +kernel, by decide +kernel⟩
abbrev s_touched : Stmt := top 39
abbrev N_touched : List Str := ["project", "number", "token", "files", "found", "other"]
theorem sc_touched : FnScope N_touched ["project", "number", "token"] (defScope s_touched) := ⟨rfl, rfl, rfl, by decide +kernel, rfl, by decide +kernel, by decide +kernel⟩
abbrev s_all_rings : Stmt := top 40
abbrev N_all_rings : List Str := ["project", "some", "found", "ring"]
theorem sc_all_rings : FnScope N_all_rings ["project"] (defScope s_all_rings) := ⟨rfl, rfl, rfl, by decide +kernel, rfl, by decide +kernel, by decide +kernel⟩
abbrev s_check_second : Stmt := top 41
abbrev N_check_second : List Str := ["project", "first", "second"]
theorem sc_check_second : FnScope N_check_second ["project", "first", "second"] (defScope s_check_second) := ⟨rfl, rfl, rfl, by decide +kernel, rfl, by decide +kernel, by decide +kernel⟩
abbrev s_cut_told : Stmt := top 42
abbrev N_cut_told : List Str := ["project", "first", "second", "side", "out", "found", "pair"]
theorem sc_cut_told : FnScope N_cut_told ["project", "first", "second"] (defScope s_cut_told) := ⟨rfl, rfl, rfl, by decide +kernel, rfl, by decide +kernel, by decide +kernel⟩
abbrev s_check_cut : Stmt := top 43
abbrev N_check_cut : List Str := ["project", "first", "second", "row", "left", "found", "at", "number"]
theorem sc_check_cut : FnScope N_check_cut ["project", "first", "second", "row"] (defScope s_check_cut) := ⟨rfl, rfl, rfl, by decide +kernel, rfl, by decide +kernel, by decide +kernel⟩
abbrev s_undo : Stmt := top 44
abbrev N_undo : List Str := ["project"]
theorem sc_undo : FnScope N_undo ["project"] (defScope s_undo) := ⟨rfl, rfl, rfl, by decide +kernel, rfl, by decide +kernel, by decide +kernel⟩
abbrev s_summary : Stmt := top 45
abbrev N_summary : List Str := ["project", "many"]
theorem sc_summary : FnScope N_summary ["project"] (defScope s_summary) := ⟨rfl, rfl, rfl, by decide +kernel, rfl, by decide +kernel, by decide +kernel⟩
abbrev s_of_changes : Stmt := top 46
abbrev N_of_changes : List Str := ["project", "word", "numbers", "rows", "files"]
theorem sc_of_changes : FnScope N_of_changes ["project", "word", "numbers", "rows"] (defScope s_of_changes) := ⟨rfl, rfl, rfl, by decide +kernel, rfl, by decide +kernel, by decide +kernel⟩
abbrev s_of_file : Stmt := top 47
abbrev N_of_file : List Str := ["project", "word", "numbers", "rows", "number"]
theorem sc_of_file : FnScope N_of_file ["project", "word", "numbers", "rows"] (defScope s_of_file) := ⟨rfl, rfl, rfl, by decide +kernel, rfl, by decide +kernel, by decide +kernel⟩
abbrev s_done : Stmt := top 48
abbrev N_done : List Str := ["project", "word", "numbers", "rows"]
theorem sc_done : FnScope N_done ["project", "word", "numbers", "rows"] (defScope s_done) := ⟨rfl, rfl, rfl, by decide +kernel, rfl, by decide +kernel, by decide +kernel⟩
abbrev s_answer_of : Stmt := top 49
abbrev N_answer_of : List Str := ["project", "word", "numbers", "rows", "e"]
theorem sc_answer_of : FnScope N_answer_of ["project", "word", "numbers", "rows"] (defScope s_answer_of) := ⟨rfl, rfl, rfl, by decide +kernel, rfl, by decide +kernel, by decide +kernel⟩
abbrev s_answers : Stmt := top 50
abbrev N_answers : List Str := ["calls", "project", "found", "at", "word", "numbers", "rows", "turn", "answer"]
theorem sc_answers : FnScope N_answers ["calls"] (defScope s_answers) := ⟨rfl, rfl, rfl, by decide +kernel, rfl, by decide +kernel, by decide +kernel⟩

/-! ### what the top has written -/
/-- where the classes and the written lists stand -/
structure Ad where
  File : Addr
  Project : Addr
  Refused : Addr
  nums : Addr
  rows : Addr
  withn : Addr
/-- a class with its __init__ -/
def MakeAt (K : PySem.W.Frag) (mg : Str → Option Value) (x qual : Str) (C : Addr) (st : Stmt) (ps : List Str) : Prop := mg x = some (.ref C) ∧ ∃ (f : Addr) (fd : FuncData), Mk K C f ∧ Fun K "__init__" qual st f fd ∧ Binds K fd ps []
/-- a method -/
def MethAt (K : PySem.W.Frag) (C : Addr) (m qual : Str) (st : Stmt) (ps : List Str) : Prop := ∃ (f : Addr) (fd : FuncData), Meth K C m f ∧ Fun K m qual st f fd ∧ Binds K fd ps []
def numsL : List Int := [1, 1, 1, 1, 1, 2, 1, 1, 4, 0, 1, 0, 1, 1, 1, 1, 2, 0, 2, 2, 0, 0]
def withL : List Int := [1, 2, 3, 4, 5, 6, 7, 8, 10, 12, 13, 14, 15, 16, 18, 19]
/-- the written dict ROWS -/
def RowsAt (K : PySem.W.Frag) (d : Addr) : Prop := ∃ (n : Nat) (t1 t2 t3 u1 u2 u3 : Tok) (sl : Array (Option Value)), K.lookup d = some ⟨.type "dict", none, .dict #[⟨1, .int 1 t1, .int 3 u1⟩, ⟨13, .int 13 t2, .int 3 u2⟩, ⟨19, .int 19 t3, .int 1 u3⟩] n, sl⟩
structure Txt (K : PySem.W.Frag) (mg : Str → Option Value) (A : Ad) : Prop where
  clF : Cls K A.File
  nF_imports : NoAttr K A.File "imports"
  nF_statements : NoAttr K A.File "statements"
  nF_text : NoAttr K A.File "text"
  mkF : MakeAt K mg "File" "File.__init__" A.File s_File_init ["self", "imports", "statements", "text"]
  clP : Cls K A.Project
  nP_tokens : NoAttr K A.Project "tokens"
  nP_files : NoAttr K A.Project "files"
  nP_kept : NoAttr K A.Project "kept"
  nP_before : NoAttr K A.Project "before"
  mkP : MakeAt K mg "Project" "Project.__init__" A.Project s_Project_init ["self", "tokens"]
  m_pending : MethAt K A.Project "pending" "Project.pending" s_Project_pending ["self", "files"]
  m_change : MethAt K A.Project "change" "Project.change" s_Project_change ["self", "files"]
  m_is_statement : MethAt K A.Project "is_statement" "Project.is_statement" s_Project_is_statement ["self", "kind", "form", "other"]
  m_file : MethAt K A.Project "file" "Project.file" s_Project_file ["self", "rows"]
  gR : mg "Refused" = some (.ref A.Refused)
  oR : OexC K A.Refused
  xR : XfC K A.Refused
  nR_code : PySem.W.findIn K (.ref A.Refused) "code" = some none
  iR : ∃ (f : Addr) (fd : FuncData), PySem.W.findIn K (.ref A.Refused) "__init__" = some (some (.ref f)) ∧ PySem.W.typeIn K (.ref f) = some (.type "function") ∧ Fun K "__init__" "Refused.__init__" s_Refused_init f fd ∧ Binds K fd ["self", "code"] []
  teR : PySem.W.exmOne K (.ref A.Refused) (.ref A.Refused) = some true
  nums : SqL K (fun _ => none) A.nums (numsL.map V.int)
  withn : SqT K (fun _ => none) A.withn (withL.map V.int)
  rowsD : RowsAt K A.rows
  c_MOST_NUMBER : Glb mg "MOST_NUMBER" (.int 9)
  c_MOST_STATEMENTS : Glb mg "MOST_STATEMENTS" (.int 12)
  c_MOST_TEXT : Glb mg "MOST_TEXT" (.int 60)
  c_MOST_UNDO : Glb mg "MOST_UNDO" (.int 20)
  c_NUMBERS : Glb mg "NUMBERS" (.ref A.nums)
  c_ROWS : Glb mg "ROWS" (.ref A.rows)
  c_WITH_NUMBER : Glb mg "WITH_NUMBER" (.ref A.withn)
  b_len : mg "len" = none
  b_sorted : mg "sorted" = none
  b_any : mg "any" = none
  b_all : mg "all" = none
  b_min : mg "min" = none
  b_list : mg "list" = none
  b_tuple : mg "tuple" = none
  b_dict : mg "dict" = none
  b_range : mg "range" = none
  d_tokens_of : DefAt K mg "tokens_of" s_tokens_of ["statement"]
  d_next_numbers : DefAt K mg "next_numbers" s_next_numbers ["files", "number", "left"]
  d_paths_from : DefAt K mg "paths_from" s_paths_from ["files", "number", "left"]
  d_seen : DefAt K mg "seen" s_seen ["files", "number"]
  d_statements_seen : DefAt K mg "statements_seen" s_statements_seen ["files", "number"]
  d_joined : DefAt K mg "joined" s_joined ["files", "number"]
  d_key : DefAt K mg "key" s_key ["files", "number"]
  d_with_imports : DefAt K mg "with_imports" s_with_imports ["files", "number", "imports"]
  d_rows_of : DefAt K mg "rows_of" s_rows_of ["items", "size"]
  d_needed : DefAt K mg "needed" s_needed ["files", "number"]
  d_is_enough : DefAt K mg "is_enough" s_is_enough ["files", "keys", "number"]
  d_rings : DefAt K mg "rings" s_rings ["files"]
  d_flow_path : DefAt K mg "flow_path" s_flow_path ["files", "used", "first", "last"]
  d_cut : DefAt K mg "cut" s_cut ["files", "first", "last"]
  d_need : DefAt K mg "need" s_need ["is_right", "code"]
  d_listed : DefAt K mg "listed" s_listed ["some"]
  d_flat : DefAt K mg "flat" s_flat ["statements"]
  d_with_file : DefAt K mg "with_file" s_with_file ["project", "number", "rows"]
  d_without_file : DefAt K mg "without_file" s_without_file ["project", "number"]
  d_visible : DefAt K mg "visible" s_visible ["project", "number"]
  d_seers : DefAt K mg "seers" s_seers ["project", "number"]
  d_path : DefAt K mg "path" s_path ["project", "first", "second"]
  d_relevant : DefAt K mg "relevant" s_relevant ["project", "number"]
  d_source : DefAt K mg "source" s_source ["project", "number", "statement"]
  d_read : DefAt K mg "read" s_read ["project", "number"]
  d_read_all : DefAt K mg "read_all" s_read_all ["project"]
  d_reasons : DefAt K mg "reasons" s_reasons ["project", "number"]
  d_touched : DefAt K mg "touched" s_touched ["project", "number", "token"]
  d_all_rings : DefAt K mg "all_rings" s_all_rings ["project"]
  d_check_second : DefAt K mg "check_second" s_check_second ["project", "first", "second"]
  d_cut_told : DefAt K mg "cut_told" s_cut_told ["project", "first", "second"]
  d_check_cut : DefAt K mg "check_cut" s_check_cut ["project", "first", "second", "row"]
  d_undo : DefAt K mg "undo" s_undo ["project"]
  d_summary : DefAt K mg "summary" s_summary ["project"]
  d_of_changes : DefAt K mg "of_changes" s_of_changes ["project", "word", "numbers", "rows"]
  d_of_file : DefAt K mg "of_file" s_of_file ["project", "word", "numbers", "rows"]
  d_done : DefAt K mg "done" s_done ["project", "word", "numbers", "rows"]
  d_answer_of : DefAt K mg "answer_of" s_answer_of ["project", "word", "numbers", "rows"]
  d_answers : DefAt K mg "answers" s_answers ["calls"]
end Sf
/-! W1: names of readings; what stands in the heap; small lemmas. -/
namespace Sf
open PySem PySem.Spec PyProof.Rows L2

/-! ### readings by name -/
abbrev rAddI : R2 := rI0 fun i j => .int (i + j)
abbrev rSubI : R2 := rI0 fun i j => .int (i - j)
abbrev rMulI : R2 := rI CMul fun i j => .int (i * j)
abbrev rDivI : R2 := rI CDiv fun i j => .int (i / j)
abbrev rModI : R2 := rI (fun _ j => 0 < j) fun i j => .int (i % j)
abbrev rLtI : R2 := rI0 fun i j => .bl (decide (i < j))
abbrev rLeI : R2 := rI0 fun i j => .bl (decide (i ≤ j))
abbrev rGtI : R2 := rI0 fun i j => .bl (decide (j < i))
abbrev rGeI : R2 := rI0 fun i j => .bl (decide (j ≤ i))
abbrev rNegI : V → Hp → VK → Prop := rU fun i => .int (-i)
abbrev rLenD : List V → Hp → VK → Prop := fun xs H Q => ∃ a kvs, xs = [V.ref a] ∧ H a = some (.dK kvs) ∧ Q (.int kvs.length) H
abbrev rLenS (K : PySem.W.Frag) : List V → Hp → VK → Prop := fun xs H Q => ∃ p ys, xs = [.ref p] ∧ (SqL K H p ys ∨ SqT K H p ys) ∧ Q (.int ys.length) H
abbrev rListOf (K : PySem.W.Frag) : List V → Hp → VK → Prop := fun xs H Q => ∃ p ys, xs = [.ref p] ∧ (SqL K H p ys ∨ SqT K H p ys) ∧ ∀ l, H l = none → Q (.ref l) (upd H l (.lst ys))
abbrev rTupOf (K : PySem.W.Frag) : List V → Hp → VK → Prop := fun xs H Q => ∃ p ys, xs = [.ref p] ∧ ((SqL K H p ys ∧ ∀ l, H l = none → Q (.ref l) (upd H l (.tup ys))) ∨ (SqT K H p ys ∧ Q (.ref p) H))
abbrev rDictD : List V → Hp → VK → Prop := fun xs H Q => ∃ (a : Addr) (kvs : List (Key × V)), xs = [.ref a] ∧ Rd H a (.dK kvs) ∧ ∀ p, H p = none → Q (.ref p) (upd H p (.dK kvs))
abbrev rDictP (K : PySem.W.Frag) : List V → Hp → VK → Prop := fun xs H Q => ∃ (a : Addr) (ps : List Addr) (kvs : List (Key × V)), xs = [.ref a] ∧ SqL K H a (ps.map V.ref) ∧ Paired (fun p kv => SqT K H p [kV kv.1, kv.2]) ps kvs ∧ ∀ p, H p = none → Q (.ref p) (upd H p (.dK (mergeK [] kvs)))
abbrev rSortDI : List V → Hp → VK → Prop := fun xs H Q => ∃ (a : Addr) (kvs : List (Key × V)) (ks : List Int), xs = [.ref a] ∧ Rd H a (.dK kvs) ∧ kvs.map (·.1) = ks.map Sum.inl ∧ ks.length < 64 ∧ ∀ (ys : List Int) (p : Addr), ys.Perm ks → ys.Pairwise (· ≤ ·) → H p = none → Q (.ref p) (upd H p (.lst (ys.map V.int)))
abbrev tTru (K : PySem.W.Frag) (ta : TE) : TT := fun σ H Q => ta σ H fun x H' => ∃ k, TruV K x H' k ∧ Q k H'

/-! ### what is kept -/
theorem Same.rd {H H' : Hp} {a : Addr} {u : HO} (e : Same H H') (h : Rd H a u) : Rd H' a u := by
  rcases h with h | ⟨o, h⟩
  · exact .inl (e _ _ h)
  · exact .inr ⟨o, e _ _ h⟩
theorem Same.tupq {K : PySem.W.Frag} {H H' : Hp} {a : Addr} {xs : List V} (e : Same H H') (h : SqT K H a xs) : SqT K H' a xs := by
  rcases h with h | h
  · exact .inl (Same.rd e h)
  · exact .inr h
theorem Same.new {H : Hp} {p : Addr} {o : HO} (h : H p = none) : Same H (upd H p o) := fun b u e => by
  rw [upd_ne (ne_of_none e h)]
  exact e
theorem Same.neu {H H1 : Hp} {p : Addr} {o : HO} (s : Same H H1) (h : H1 p = none) : Same H (upd H1 p o) := s.trans (Same.new h)
/-- a write at a place that was free at the start -/
theorem Same.put {H H1 : Hp} {p : Addr} {o : HO} (s : Same H H1) (h : H p = none) : Same H (upd H1 p o) := fun b u e => by
  rw [upd_ne (ne_of_none e h)]
  exact s b u e
theorem rd_same {H : Hp} {a : Addr} {u v : HO} (h : Rd H a u) (h' : Rd H a v) (nu : ∀ o w, u ≠ .frz o w) (nv : ∀ o w, v ≠ .frz o w) : u = v := by
  rcases h with h | ⟨o, h⟩ <;> rcases h' with h' | ⟨o', h'⟩ <;> rw [h] at h' <;> cases h'
  · rfl
  · exact absurd rfl (nu _ _)
  · exact absurd rfl (nv _ _)
  · rfl

/-! ### numbers -/
abbrev nV (l : List Nat) : List V := l.map fun n : Nat => V.int (n : Int)
theorem nV_at {l : List Nat} {i : Nat} {x : V} (h : (nV l)[i]? = some x) : ∃ n, l[i]? = some n ∧ x = .int (n : Int) := by
  rw [List.getElem?_map] at h
  cases e : l[i]? with
  | none => rw [e] at h; cases h
  | some n => rw [e] at h; exact ⟨n, rfl, (Option.some.inj h).symm⟩
theorem map_at {α : Type} {f : α → V} {l : List α} {i : Nat} {x : V} (h : (l.map f)[i]? = some x) : ∃ n, l[i]? = some n ∧ x = f n := by
  rw [List.getElem?_map] at h
  cases e : l[i]? with
  | none => rw [e] at h; cases h
  | some n => rw [e] at h; exact ⟨n, rfl, (Option.some.inj h).symm⟩
theorem take_succ' {α : Type} {l : List α} {i : Nat} {x : α} (h : l[i]? = some x) : l.take (i + 1) = l.take i ++ [x] := by
  rw [List.take_add_one, h]; rfl
theorem nV_len (l : List Nat) : (nV l).length = l.length := by simp
theorem nV_snoc (l : List Nat) (v : Nat) : nV (l ++ [v]) = nV l ++ [V.int (v : Int)] := by simp
theorem inV_nV (n : Nat) : ∀ l : List Nat, inV (.int (n : Int)) (nV l) = decide (n ∈ l)
  | [] => rfl
  | a :: l => by
    have ih := inV_nV n l
    unfold inV at ih ⊢
    rw [show nV (a :: l) = V.int (a : Int) :: nV l from rfl, List.any_cons, ih]
    have : eqV (.int (a : Int)) (.int (n : Int)) = decide ((a : Int) = (n : Int)) := rfl
    rw [this]
    by_cases e : n = a
    · subst e; simp
    · have e' : ¬ (a : Int) = (n : Int) := by omega
      simp [e, e']
theorem nV_flat (l : List Nat) : (nV l).all flatV = true := by
  rw [List.all_eq_true]
  intro x hx
  obtain ⟨n, _, rfl⟩ := List.mem_map.mp hx
  rfl
/-- sorted numbers -/
theorem sorted_nats : ∀ {ys : List Int} {ns : List Nat}, ys.Perm (ns.map fun n : Nat => (n : Int)) → ys.Pairwise (· ≤ ·) → ∃ ms : List Nat, ys = ms.map (fun n : Nat => (n : Int)) ∧ ms.Perm ns ∧ ms.Pairwise (· ≤ ·) := by
  intro ys ns hp hs
  have h0 : ∀ y ∈ ys, 0 ≤ y := fun y hy => by
    obtain ⟨n, _, e⟩ := List.mem_map.mp (hp.mem_iff.mp hy)
    omega
  have e1 : ys = (ys.map Int.toNat).map (fun n : Nat => (n : Int)) := by
    rw [List.map_map]
    conv => lhs; rw [← List.map_id ys]
    refine List.map_congr_left fun y hy => ?_
    have := h0 y hy
    show y = ((y.toNat : Nat) : Int)
    omega
  refine ⟨ys.map Int.toNat, e1, ?_, ?_⟩
  · have := hp.map Int.toNat
    rw [List.map_map] at this
    have e2 : (Int.toNat ∘ fun n : Nat => (n : Int)) = id := by funext n; simp
    rw [e2, List.map_id] at this
    exact this
  · rw [List.pairwise_map]
    exact hs.imp fun h => by omega
theorem le_nodup_lt {l : List Nat} (h : l.Pairwise (· ≤ ·)) (n : l.Nodup) : l.Pairwise (· < ·) := by
  refine (List.pairwise_and_iff.mpr ⟨h, n⟩).imp fun h => ?_
  obtain ⟨a, b⟩ := h
  omega
theorem sorted_up {ys : List Int} {ns ms : List Nat} (hp : ys.Perm (ns.map fun n : Nat => (n : Int))) (hs : ys.Pairwise (· ≤ ·)) (nd : ns.Nodup) (hm : ms.Pairwise (· < ·)) (h : ∀ x, x ∈ ns ↔ x ∈ ms) : ys.map V.int = nV ms := by
  obtain ⟨ls, e, p, s⟩ := sorted_nats hp hs
  have := eq_of_up ls ms (le_nodup_lt s (p.symm.nodup nd)) hm fun x => p.mem_iff.trans (h x)
  subst this
  rw [e, List.map_map]
  rfl

/-! ### statements, files, projects in the heap -/
open Vbjbaj (Statement File Project)
def stT (s : Statement) : List V := [.int (s.kind : Int), .int (s.form : Int), .int (s.other : Int)]
/-- v is a tuple that is this statement -/
def StV (H : Hp) (v : V) (s : Statement) : Prop := ∃ a, v = .ref a ∧ H a = some (.tup (stT s))
abbrev StL (H : Hp) : List V → List Statement → Prop := Paired (StV H)
theorem StV.same {H H' : Hp} {v : V} {s : Statement} (e : Same H H') (h : StV H v s) : StV H' v s := by
  obtain ⟨a, h1, h2⟩ := h
  exact ⟨a, h1, e _ _ h2⟩
theorem StL.same {H H' : Hp} {vs : List V} {l : List Statement} (e : Same H H') (h : StL H vs l) : StL H' vs l := Paired.mapP h fun _ _ q => q.same e
def fileF (it st tt : Addr) : List (Str × V) := [("imports", .ref it), ("statements", .ref st), ("text", .ref tt)]
/-- an instance of File -/
def FileAt (C : Addr) (H : Hp) (a : Addr) (x : File) : Prop := ∃ (dx it st tt : Addr) (ss : List V), H a = some (.ins C dx (fileF it st tt)) ∧ H it = some (.tup (nV x.imports)) ∧ H st = some (.tup ss) ∧ StL H ss x.statements ∧ H tt = some (.tup (nV x.text))
theorem FileAt.same {C : Addr} {H H' : Hp} {a : Addr} {x : File} (e : Same H H') (h : FileAt C H a x) : FileAt C H' a x := by
  obtain ⟨dx, it, st, tt, ss, h1, h2, h3, h4, h5⟩ := h
  exact ⟨dx, it, st, tt, ss, e _ _ h1, e _ _ h2, e _ _ h3, h4.same e, e _ _ h5⟩
/-- the entries of a dict of files -/
structure KF (C : Addr) (H : Hp) (kvs : List (Key × V)) (p : Project) : Prop where
  nd : (kvs.map (·.1)).Nodup
  ks : ∃ ks : List Nat, kvs.map (·.1) = ks.map (fun n : Nat => Sum.inl (n : Int)) ∧ ∀ f, f ∈ ks ↔ (Vbjbaj.fileAt p f).isSome = true
  at_ : ∀ f x, Vbjbaj.fileAt p f = some x → ∃ a, valV kvs (.inl (f : Int)) = some (.ref a) ∧ FileAt C H a x
theorem KF.same {C : Addr} {H H' : Hp} {kvs : List (Key × V)} {p : Project} (e : Same H H') (h : KF C H kvs p) : KF C H' kvs p :=
  ⟨h.nd, h.ks, fun f x q => by obtain ⟨a, h1, h2⟩ := h.at_ f x q; exact ⟨a, h1, h2.same e⟩⟩
def FilesAt (C : Addr) (H : Hp) (d : Addr) (p : Project) : Prop := ∃ kvs, Rd H d (.dK kvs) ∧ KF C H kvs p
theorem FilesAt.same {C : Addr} {H H' : Hp} {d : Addr} {p : Project} (e : Same H H') (h : FilesAt C H d p) : FilesAt C H' d p := by
  obtain ⟨kvs, h1, h2⟩ := h
  exact ⟨kvs, Same.rd e h1, h2.same e⟩
theorem valV_none_of {kvs : List (Key × V)} {k : Key} (h : k ∉ kvs.map (·.1)) : valV kvs k = none := by
  cases e : valV kvs k with
  | none => rfl
  | some v => exact absurd (valV_in e) h
theorem valV_some_of {kvs : List (Key × V)} {k : Key} (h : k ∈ kvs.map (·.1)) : ∃ v, valV kvs k = some v := by
  cases e : valV kvs k with
  | none => exact absurd h (valV_not e)
  | some v => exact ⟨v, rfl⟩
theorem KF.none_ {C : Addr} {H : Hp} {kvs : List (Key × V)} {p : Project} (h : KF C H kvs p) {f : Nat} (q : Vbjbaj.fileAt p f = none) : valV kvs (.inl (f : Int)) = none := by
  obtain ⟨ks, e, m⟩ := h.ks
  refine valV_none_of fun hm => ?_
  rw [e] at hm
  obtain ⟨n, hn, en⟩ := List.mem_map.mp hm
  have : n = f := by
    have := Sum.inl.inj en
    omega
  subst this
  have := (m n).mp hn
  rw [q] at this
  cases this
theorem KF.isSome {C : Addr} {H : Hp} {kvs : List (Key × V)} {p : Project} (h : KF C H kvs p) (f : Nat) : (valV kvs (.inl (f : Int))).isSome = Vbjbaj.doesExist p f := by
  unfold Vbjbaj.doesExist
  cases q : Vbjbaj.fileAt p f with
  | none => rw [h.none_ q]; rfl
  | some x =>
    obtain ⟨a, e, _⟩ := h.at_ f x q
    rw [e]; rfl
/-- d's entry -/
theorem FilesAt.get {C : Addr} {H : Hp} {d : Addr} {p : Project} (h : FilesAt C H d p) {f : Nat} {x : File} (q : Vbjbaj.fileAt p f = some x) : ∃ a, DGet H d (.int (f : Int)) (some (.ref a)) ∧ FileAt C H a x := by
  obtain ⟨kvs, h1, h2⟩ := h
  obtain ⟨a, e, fa⟩ := h2.at_ f x q
  exact ⟨a, .inl ⟨kvs, .inl (f : Int), h1, rfl, e.symm⟩, fa⟩
theorem FilesAt.has {C : Addr} {H : Hp} {d : Addr} {p : Project} (h : FilesAt C H d p) (f : Nat) : ∃ o, DGet H d (.int (f : Int)) o ∧ o.isSome = Vbjbaj.doesExist p f := by
  obtain ⟨kvs, h1, h2⟩ := h
  exact ⟨_, .inl ⟨kvs, .inl (f : Int), h1, rfl, rfl⟩, h2.isSome f⟩
end Sf
/-! W2: rules that the layer lacks: in over tuples of tuples, not in an empty tuple or a dict. -/
namespace Sf
open PySem PySem.Spec PyProof.Rows L2
open Vbjbaj (Statement File Project)

/-! ### data -/
def iD (n : Nat) : PyData := .int (n : Int)
def stD (s : Statement) : PyData := .tuple [.int (s.kind : Int), .int (s.form : Int), .int (s.other : Int)]
theorem eqv_int (a b : Nat) : PyData.eqv (iD a) (iD b) = decide (a = b) := by
  show (((a : Int) == (b : Int)) : Bool) = _
  by_cases e : a = b
  · subst e; simp
  · have : ¬ (a : Int) = (b : Int) := by omega
    simp [e, this]
theorem eqv_st (a b : Statement) : PyData.eqv (stD a) (stD b) = decide (a = b) := by
  show (((a.kind : Int) == (b.kind : Int)) && (((a.form : Int) == (b.form : Int)) && (((a.other : Int) == (b.other : Int)) && true))) = _
  obtain ⟨a1, a2, a3⟩ := a
  obtain ⟨b1, b2, b3⟩ := b
  by_cases e1 : a1 = b1
  · by_cases e2 : a2 = b2
    · by_cases e3 : a3 = b3
      · subst e1 e2 e3; simp
      · have : ¬ (a3 : Int) = (b3 : Int) := by omega
        simp [e3, this]
    · have : ¬ (a2 : Int) = (b2 : Int) := by omega
      simp [e2, this]
  · have : ¬ (a1 : Int) = (b1 : Int) := by omega
    simp [e1, this]
theorem eqvAll_map {α : Type} [DecidableEq α] {f : α → PyData} (h : ∀ a b, PyData.eqv (f a) (f b) = decide (a = b)) : ∀ l m : List α, PyData.eqvAll (l.map f) (m.map f) = decide (l = m)
  | [], [] => rfl
  | [], _ :: _ => rfl
  | _ :: _, [] => rfl
  | a :: l, b :: m => by
    show (PyData.eqv (f a) (f b) && PyData.eqvAll (l.map f) (m.map f)) = _
    rw [h, eqvAll_map h l m]
    by_cases e1 : a = b
    · by_cases e2 : l = m
      · subst e1 e2; simp
      · simp [e2]
    · simp [e1]
theorem layAll_map {α : Type} {f : α → PyData} (h : ∀ a, (f a).canLay0 = true) : ∀ l : List α, PyData.canLayAll0 (l.map f) = true
  | [] => rfl
  | a :: l => by
    show ((f a).canLay0 && PyData.canLayAll0 (l.map f)) = true
    rw [h a, layAll_map h l]; rfl
theorem depthAll_map {α : Type} {f : α → PyData} {n : Nat} (h : ∀ a, (f a).depth ≤ n) : ∀ l : List α, PyData.depthAll (l.map f) ≤ n
  | [] => by simp [PyData.depthAll]
  | a :: l => by
    have := depthAll_map h l
    have := h a
    simp only [List.map_cons, PyData.depthAll]
    omega
theorem st_lay (s : Statement) : (stD s).canLay0 = true := by simp [stD, PyData.canLay0, PyData.canLayAll0]
theorem st_depth (s : Statement) : (stD s).depth ≤ 2 := by simp [stD, PyData.depth, PyData.depthAll]
theorem i_lay (n : Nat) : (iD n).canLay0 = true := by simp [iD, PyData.canLay0]
theorem i_depth (n : Nat) : (iD n).depth ≤ 1 := by simp [iD, PyData.depth]
theorem sts_shaped (l : List Statement) : SeqAt.shaped (.tuple (l.map stD)) = true := by
  have h1 := layAll_map st_lay l
  have h2 := depthAll_map st_depth l
  unfold SeqAt.shaped
  rw [Bool.and_eq_true, decide_eq_true_eq]
  constructor
  · simpa [PyData.canLay0] using h1
  · simp only [PyData.depth]; omega
theorem st_shaped (s : Statement) : SeqAt.shaped (stD s) = true := by
  have := st_depth s
  unfold SeqAt.shaped
  rw [st_lay]
  simp; omega
theorem is_shaped (l : List Nat) : SeqAt.shaped (.tuple (l.map iD)) = true := by
  have h1 := layAll_map i_lay l
  have h2 := depthAll_map i_depth l
  unfold SeqAt.shaped
  rw [Bool.and_eq_true, decide_eq_true_eq]
  constructor
  · simpa [PyData.canLay0] using h1
  · simp only [PyData.depth]; omega
theorem any_st (s : Statement) (l : List Statement) : ((l.map stD).any fun z => PyData.eqv z (stD s)) = l.contains s := by
  rw [List.any_map]
  have : ((fun z => PyData.eqv z (stD s)) ∘ stD) = fun b => b == s := by
    funext b
    show PyData.eqv (stD b) (stD s) = _
    rw [eqv_st]
    rfl
  rw [this]
  induction l with
  | nil => rfl
  | cons a l ih =>
    rw [List.any_cons, List.contains_cons, ih]
    congr 1
    exact Bool.beq_comm
theorem DpAll.of {K : PySem.W.Frag} {H : Hp} {α : Type} {f : α → PyData} : ∀ {vs : List V} {l : List α}, Paired (fun v a => Dp K H v (f a)) vs l → DpAll K H vs (l.map f)
  | _, _, .nil => .nil
  | _, _, .cons h t => .cons h (DpAll.of t)
theorem dp_st {K : PySem.W.Frag} {H : Hp} {v : V} {s : Statement} (h : StV H v s) : Dp K H v (stD s) := by
  obtain ⟨a, rfl, h⟩ := h
  exact .tup (SqT.of h) (.cons (.int _) (.cons (.int _) (.cons (.int _) .nil)))
theorem dp_sts {K : PySem.W.Frag} {H : Hp} {a : Addr} {vs : List V} {l : List Statement} (h : SqT K H a vs) (r : StL H vs l) : Dp K H (.ref a) (.tuple (l.map stD)) :=
  .tup h (DpAll.of (Paired.mapP r fun _ _ q => dp_st q))
theorem dpAll_ints {K : PySem.W.Frag} {H : Hp} : ∀ l : List Nat, DpAll K H (nV l) (l.map iD)
  | [] => .nil
  | a :: l => .cons (.int _) (dpAll_ints l)
theorem dp_ints {K : PySem.W.Frag} {H : Hp} {a : Addr} {l : List Nat} (h : SqT K H a (nV l)) : Dp K H (.ref a) (.tuple (l.map iD)) := .tup h (dpAll_ints l)

/-! ### in, not in over a tuple of data -/
def rInDT (K : PySem.W.Frag) : R2 := fun x y H Q => ∃ d ds, Dp K H x d ∧ Dp K H y (.tuple ds) ∧ SeqAt.shaped d = true ∧ SeqAt.shaped (.tuple ds) = true ∧ Q (.bl (ds.any fun z => PyData.eqv z d)) H
def rNotInDT (K : PySem.W.Frag) : R2 := fun x y H Q => ∃ d ds, Dp K H x d ∧ Dp K H y (.tuple ds) ∧ SeqAt.shaped d = true ∧ SeqAt.shaped (.tuple ds) = true ∧ Q (.bl (!ds.any fun z => PyData.eqv z d)) H
section
variable {X : Cx}
theorem op_inDT (hu : X.A.units + 65 < cLine) : OpR X (compareOp .In) (rInDT X.K) := by
  intro pins s σ H x y v u Q I rx ry h
  obtain ⟨d, ds, hd, he, sd, se, q⟩ := h
  obtain ⟨as, r1⟩ := Dp.reads I d x v hd rx
  obtain ⟨bs, r2⟩ := Dp.reads I (.tuple ds) y u he ry
  exact SeqAt.in_tuple_reads r2 r1 (SeqAt.canLay_of_shaped se) (SeqAt.canLay_of_shaped sd) (room_in_shaped sd hu) ⟨.bl _, H, I, rfl, q⟩
theorem op_notInDT (hu : X.A.units + 65 < cLine) : OpR X (compareOp .NotIn) (rNotInDT X.K) := by
  intro pins s σ H x y v u Q I rx ry h
  obtain ⟨d, ds, hd, he, sd, se, q⟩ := h
  obtain ⟨as, r1⟩ := Dp.reads I d x v hd rx
  obtain ⟨bs, r2⟩ := Dp.reads I (.tuple ds) y u he ry
  exact SeqAt.notIn_tuple_reads r2 r1 (SeqAt.canLay_of_shaped se) (SeqAt.canLay_of_shaped sd) (room_in_shaped sd hu) ⟨.bl _, H, I, rfl, q⟩
/-- x not in left: left a dict, or a tuple -/
def tNotInLeft (K : PySem.W.Frag) (ty td : TE) : TE := fun σ H Q => ty σ H fun y H1 => td σ H1 fun x H2 => (∃ a o, x = .ref a ∧ DGet H2 a y o ∧ Q (.bl (!o.isSome)) H2) ∨ rNotInDT K y x H2 Q
theorem pc_notin_left {i o : Expr} {ty td : TE} (hu : X.A.units + 1 < cLine) (hu65 : X.A.units + 65 < cLine) (hi : PE X i ty) (ho : PE X o td) : PC X .NotIn i o (tNotInLeft X.K ty td) := by
  refine ⟨fun pins s σ H Q I h => ?_⟩
  refine bin hi ho I h fun v u s2 y x H2 I2 ry rx q => ?_
  rcases q with ⟨a, oo, ex, g, q⟩ | q
  · subst ex
    obtain rfl : u = Value.ref a := rx
    exact d_notIn hu I2 g ry fun s3 I3 => ⟨.bl _, H2, I3, rfl, q⟩
  · exact op_notInDT hu65 pins s2 σ H2 y x v u Q I2 ry rx q
theorem hu65_of {A : Around} {k : Nat} (hr : Room k A) : A.units + 65 < cLine := by have := hr.un; omega
theorem hu64_of {A : Around} {k : Nat} (hr : Room k A) : A.units + 64 < cLine := by have := hr.un; omega
end
end Sf
/-! W2b: comprehensions over lists and tuples that leave all as it was. -/
namespace Sf
open PySem PySem.Spec PyProof.Rows L2
open Vbjbaj (Statement File Project)

/-- the new list at D, all else as it was -/
def LcP (H1 : Hp) (D : Addr) (F : Nat → List V) (i : Nat) (H : Hp) : Prop := Same H1 H ∧ H D = some (.lst (F i))
theorem LcP.start {H1 : Hp} {D : Addr} {F : Nat → List V} (hD : H1 D = none) (h0 : F 0 = []) : LcP H1 D F 0 (upd H1 D (.lst [])) := ⟨Same.new hD, by rw [upd_same, h0]⟩
theorem LcP.push {H1 H H4 : Hp} {D : Addr} {F : Nat → List V} {i : Nat} {y : V} (hD : H1 D = none) (p : LcP H1 D F i H) (s : Same H H4) (e : F (i + 1) = F i ++ [y]) (hl : (F i).length < sizeLine) :
    ∃ acc, H4 D = some (.lst acc) ∧ acc.length < sizeLine ∧ LcP H1 D F (i + 1) (upd H4 D (.lst (acc ++ [y]))) :=
  ⟨F i, s _ _ p.2, hl, Same.put (p.1.trans s) hD, by rw [upd_same, e]⟩
theorem LcP.skip {H1 H H3 : Hp} {D : Addr} {F : Nat → List V} {i : Nat} (p : LcP H1 D F i H) (s : Same H H3) (e : F (i + 1) = F i) : LcP H1 D F (i + 1) H3 := ⟨p.1.trans s, by rw [e]; exact s _ _ p.2⟩
/-- of the first i items those of p, by f -/
def Fil {α : Type} (xs : List α) (p : α → Bool) (f : α → V) (i : Nat) : List V := ((xs.take i).filter p).map f
section
variable {α : Type} {xs : List α} {p : α → Bool} {f : α → V} {i : Nat} {x : α}
theorem Fil.zero : Fil xs p f 0 = [] := rfl
theorem Fil.yes (h : xs[i]? = some x) (hp : p x = true) : Fil xs p f (i + 1) = Fil xs p f i ++ [f x] := by
  unfold Fil
  rw [take_succ' h, List.filter_append, List.filter_cons_of_pos hp, List.map_append]
  rfl
theorem Fil.no (h : xs[i]? = some x) (hp : p x = false) : Fil xs p f (i + 1) = Fil xs p f i := by
  unfold Fil
  rw [take_succ' h, List.filter_append, List.filter_cons_of_neg (by rw [hp]; decide), List.filter_nil, List.append_nil]
theorem Fil.len : (Fil xs p f i).length ≤ xs.length := by
  unfold Fil
  rw [List.length_map]
  refine Nat.le_trans (List.length_filter_le _ _) ?_
  rw [List.length_take]
  exact Nat.min_le_right _ _
theorem Fil.all : Fil xs p f xs.length = (xs.filter p).map f := by
  unfold Fil
  rw [List.take_length]
theorem Fil.lt (h : xs.length ≤ 1000) : (Fil xs p f i).length < sizeLine := small1000 (Nat.le_trans Fil.len h)
end
theorem filter_true {α : Type} (xs : List α) : xs.filter (fun _ => true) = xs := List.filter_eq_self.mpr fun _ _ => rfl
end Sf
/-! W3: tokens_of, next_numbers. -/
namespace Sf
open PySem PySem.Spec PyProof.Rows L2
open Vbjbaj (Statement File Project)
section
variable {P : Program} {w : World} {K : PySem.W.Frag} {mg : Str → Option Value} {base : Heap} {A : Ad}

/-! ### tokens_of -/
def sp_tokens_of : Sp := fun vs H Q _ => ∃ (v : V) (s : Statement), vs = [v] ∧ StV H v s ∧ ∀ H' p, Same H H' → H p = none → H' p = some (.lst (nV (Vbjbaj.tokensOf s))) → Q (.ref p) H'
theorem ok_tokens_of {f : Addr} {fd : FuncData} (F : Fun K "tokens_of" "tokens_of" s_tokens_of f fd) : FnOk P w K mg base CX0 1 f fd ["statement"] sp_tokens_of := by
  refine F.ok sc_tokens_of (fun vs H Q E h => by obtain ⟨v, s, rfl, _⟩ := h; rfl) (fun cdv A outer s H vs Q E hr h => ?_)
  refine ⟨_, (pss_cons (ps_if (pt_cmpR op_eq (pe_ix ix_tup (pv 0) pe_int (fun _ _ => rfl)) pe_int (nomark _)) (pss_one (ps_ret (pe_lst (pa_cons (pe_op op_fdiv (pe_ix ix_tup (pv 0) pe_int (fun _ _ => rfl)) pe_int) pa_nil)))) pss_nil)
(pss_one (ps_ret (pe_lst (pa_cons (pe_op op_fdiv (pe_ix ix_tup (pv 0) pe_int (fun _ _ => rfl)) pe_int) (pa_cons (pe_op op_fdiv (pe_ix ix_tup (pv 0) pe_int (fun _ _ => rfl)) pe_int) pa_nil)))))), ?_⟩
  obtain ⟨v, s, rfl, ⟨a, rfl, ha⟩, k⟩ := h
  have at0 : atI (stT s) 0 = some (.int (s.kind : Int)) := atI_nat (j := 0) rfl
  have at1 : atI (stT s) 1 = some (.int (s.form : Int)) := atI_nat (j := 1) rfl
  have at2 : atI (stT s) 2 = some (.int (s.other : Int)) := atI_nat (j := 2) rfl
  refine ⟨_, rfl, a, _, _, _, rfl, rfl, SqT.of ha, at0, rfl, _, rfl, ?_⟩
  refine ite2 (fun c => ?_) (fun c => ?_)
  · have c' : s.kind = 0 := by simpa using c
    refine ⟨_, rfl, a, _, _, _, rfl, rfl, SqT.of ha, at1, _, _, rfl, rfl, ⟨by decide, by decide⟩, by show 1 ≤ sizeLine; decide, fun p hp => ?_⟩
    refine k _ p (Same.new hp) hp ?_
    rw [upd_same]
    have : Vbjbaj.tokensOf s = [s.form / 2] := if_pos c'
    rw [this]
    rfl
  · have c' : ¬ s.kind = 0 := by simpa using c
    refine ⟨_, rfl, a, _, _, _, rfl, rfl, SqT.of ha, at1, _, _, rfl, rfl, ⟨by decide, by decide⟩, _, rfl, a, _, _, _, rfl, rfl, SqT.of ha, at2, _, _, rfl, rfl, ⟨by decide, by decide⟩, by show 2 ≤ sizeLine; decide, fun p hp => ?_⟩
    refine k _ p (Same.new hp) hp ?_
    rw [upd_same]
    have : Vbjbaj.tokensOf s = [s.form / 2, s.other / 2] := if_neg c'
    rw [this]
    rfl

/-! ### next_numbers -/
/-- the imports left out: no one (an empty tuple), or a dict's keys -/
def LeftAt (K : PySem.W.Frag) (H : Hp) (v : V) (l : List (Nat × Nat)) : Prop := ∃ a, v = .ref a ∧ ((l = [] ∧ SqT K H a []) ∨ ∃ kvs, Rd H a (.dT kvs) ∧ ∀ f g : Nat, (valV kvs [.inl (f : Int), .inl (g : Int)]).isSome = l.contains (f, g))
theorem LeftAt.same {H H' : Hp} {v : V} {l : List (Nat × Nat)} (e : Same H H') (h : LeftAt K H v l) : LeftAt K H' v l := by
  obtain ⟨a, h1, h2⟩ := h
  refine ⟨a, h1, ?_⟩
  rcases h2 with ⟨h2, h3⟩ | ⟨kvs, h2, h3⟩
  · exact .inl ⟨h2, Same.tupq e h3⟩
  · exact .inr ⟨kvs, Same.rd e h2, h3⟩
def sp_next_numbers (K : PySem.W.Frag) (A : Ad) : Sp := fun vs H Q _ => ∃ (d : Addr) (n t : Nat) (lv : V) (p : Project) (l : List (Nat × Nat)), vs = [.ref d, .int (n : Int), lv] ∧ PWf t p ∧ FilesAt A.File H d p ∧ LeftAt K H lv l ∧
  ∀ H' r, Same H H' → H r = none → H' r = some (.lst (nV (Vbjbaj.importsOf (Vbjbaj.withoutImports p l) n))) → Q (.ref r) H'
theorem look_hit {k : Str} {v : V} (r : List (Str × V)) : List.lookup k ((k, v) :: r) = some v := by
  unfold List.lookup
  rw [show (k == k) = true from beq_self_eq_true k]
theorem look_miss {k g : Str} {v : V} (r : List (Str × V)) (h : (k == g) = false) : List.lookup k ((g, v) :: r) = List.lookup k r := by
  conv => lhs; unfold List.lookup
  rw [h]
theorem fileF_imports (it st tt : Addr) : (fileF it st tt).lookup ("imports" : Str) = some (.ref it) := look_hit _
theorem fileF_statements (it st tt : Addr) : (fileF it st tt).lookup ("statements" : Str) = some (.ref st) := (look_miss _ (by decide +kernel)).trans (look_hit _)
theorem fileF_text (it st tt : Addr) : (fileF it st tt).lookup ("text" : Str) = some (.ref tt) := (look_miss _ (by decide +kernel)).trans ((look_miss _ (by decide +kernel)).trans (look_hit _))
theorem ok_next_numbers (T : Txt K mg A) {f : Addr} {fd : FuncData} (F : Fun K "next_numbers" "next_numbers" s_next_numbers f fd) : FnOk P w K mg base CX0 1 f fd ["files", "number", "left"] (sp_next_numbers K A) := by
  refine F.ok sc_next_numbers (fun vs H Q E h => by obtain ⟨d, n, t, lv, p, l, rfl, _⟩ := h; rfl) (fun cdv A' outer s H vs Q E hr h => ?_)
  have hu := hu_of hr
  have hu65 := hu65_of hr
  refine ⟨_, (pss_cons (ps_if (pt_cmp (pc_dnotin hu (pv 1) (pv 0)) (by rfl)) (pss_one (ps_ret (pe_lst pa_nil))) pss_nil)
(pss_one (ps_ret (pe_lc (own := [("other", 3)]) (g := (gName 3)) (tt := (tB (tNotInLeft K (tTup (tCons (tVar 1) (tCons (tVar 3) tNil))) (tVar 2)))) (te := (tVar 3)) (by rfl) sc_next_numbers.nd (pi_tup (pe_fld (pe_dget hu (pv 0) (pv 1) (fun _ _ => rfl)) rfl)) (blkOk_by (own := [("other", 3)]) (N := N_next_numbers) (sc := defScope s_next_numbers) (by decide +kernel)) (fun _ _ _ _ _ => (pg_name (i := 3) sc_next_numbers.nd rfl (Or.inl rfl))) (fun _ _ _ _ _ => pts_one (pt_cmp (pc_notin_left hu hu65 (pe_tup (pa_cons (pv 1) (pa_cons (pv 3) pa_nil))) (pv 2)) (by rfl))) (fun _ _ _ _ _ => (pv 3)))))), ?_⟩
  obtain ⟨d, n, t, lv, p, l, rfl, pw, fa, la, k⟩ := h
  obtain ⟨o, g, ho⟩ := fa.has n
  refine ⟨_, rfl, _, rfl, d, o, rfl, g, _, rfl, ite2 (fun c => ?_) (fun c => ?_)⟩
  · rw [ho] at c
    refine ⟨by show 0 ≤ sizeLine; decide, fun r hr => k _ r (Same.new hr) hr ?_⟩
    rw [upd_same, importsOf_without, importsOf_none (by unfold Vbjbaj.doesExist at c; simpa using c)]
    rfl
  · rw [ho] at c
    obtain ⟨x, hx⟩ := doesExist_iff.mp (by simpa using c)
    obtain ⟨a, ga, dx, it, st, tt, ss, h1, h2, h3, h4, h5⟩ := fa.get hx
    have sz : x.imports.length ≤ 10 := by have := (pw.graph).size n; rwa [importsOf_some hx] at this
    refine ⟨_, rfl, _, rfl, d, _, rfl, ga, a, A.File, dx, _, _, rfl, h1, T.clF, T.nF_imports, fileF_imports it st tt, it, rfl, ⟨_, SqT.of h2⟩, fun D hD => ?_⟩
    obtain ⟨la_, ela, lcase⟩ := la
    subst ela
    refine lc_tup (K := K) (a := it) (xs := nV x.imports) (LcP H D (Fil x.imports (fun g => !l.contains (n, g)) fun m : Nat => V.int (m : Int))) (LcP.start hD rfl) (fun i H' _ p => SqT.of (p.1 _ _ h2)) (fun i y H' hy pv => ?_) (fun H' pv => ?_)
    · obtain ⟨m, hm, rfl⟩ := nV_at hy
      refine ⟨rfl, _, rfl, _, rfl, by show 2 ≤ sizeLine; decide, fun q hq => ⟨_, rfl, ?_⟩⟩
      have s2 : Same H' (upd H' q (.tup [.int (n : Int), .int (m : Int)])) := Same.new hq
      have key : ∀ b, b = l.contains (n, m) → (if (!b) = true then ∃ acc, upd H' q (.tup [.int (n : Int), .int (m : Int)]) D = some (.lst acc) ∧ acc.length < sizeLine ∧ LcP H D (Fil x.imports (fun g => !l.contains (n, g)) fun m : Nat => V.int (m : Int)) (i + 1) (upd (upd H' q (.tup [.int (n : Int), .int (m : Int)])) D (.lst (acc ++ [.int (m : Int)]))) else LcP H D (Fil x.imports (fun g => !l.contains (n, g)) fun m : Nat => V.int (m : Int)) (i + 1) (upd H' q (.tup [.int (n : Int), .int (m : Int)]))) := by
        intro b hb
        subst hb
        refine ite2 (fun c => ?_) (fun c => ?_)
        · exact pv.push hD s2 (Fil.yes hm c) (Fil.lt (by omega))
        · exact pv.skip s2 (Fil.no hm (by simpa using c))
      rcases lcase with ⟨l0, lt⟩ | ⟨kvs, rd, lk⟩
      · refine .inr ⟨.tuple [iD n, iD m], [], .tup (SqT.of (upd_same)) (.cons (.int _) (.cons (.int _) .nil)), .tup (Same.tupq (pv.1.trans s2) lt) .nil, is_shaped [n, m], is_shaped [], _, rfl, ?_⟩
        refine ite2 (fun c => ⟨_, rfl, ?_⟩) (fun c => absurd rfl c)
        have := key false (by rw [l0]; rfl)
        exact this
      · refine .inl ⟨la_, _, rfl, .inr ⟨kvs, [.inl (n : Int), .inl (m : Int)], q, Same.rd (pv.1.trans s2) rd, rfl, upd_same, rfl⟩, _, rfl, ?_⟩
        have := key _ (lk n m)
        refine ite2 (fun c => ⟨_, rfl, ?_⟩) (fun c => ?_)
        · rwa [if_pos c] at this
        · rwa [if_neg c] at this
    · refine k _ D pv.1 hD ?_
      rw [pv.2, importsOf_without, importsOf_some hx, nV_len, Fil.all]
end
end Sf
/-! W4: paths_from. -/
namespace Sf
open PySem PySem.Spec PyProof.Rows L2
open Vbjbaj (Statement File Project)
section
variable {P : Program} {w : World} {K : PySem.W.Frag} {mg : Str → Option Value} {base : Heap} {A : Ad}

/-- an entry of the dict of paths -/
def KW (H : Hp) (kv : Key × V) (w : List Nat) : Prop := kv.1 = .inl ((lst w : Nat) : Int) ∧ ∃ a, kv.2 = .ref a ∧ H a = some (.lst (nV w))
theorem KW.same {H H' : Hp} {kv : Key × V} {w : List Nat} (e : Same H H') (h : KW H kv w) : KW H' kv w := by
  obtain ⟨h1, a, h2, h3⟩ := h
  exact ⟨h1, a, h2, e _ _ h3⟩
theorem KWs.same {H H' : Hp} {kvs : List (Key × V)} {ws : List (List Nat)} (e : Same H H') (h : Paired (KW H) kvs ws) : Paired (KW H') kvs ws := Paired.mapP h fun _ _ q => q.same e
theorem KWs.keys {H : Hp} : ∀ {kvs : List (Key × V)} {ws : List (List Nat)}, Paired (KW H) kvs ws → kvs.map (·.1) = (ws.map lst).map fun n : Nat => Sum.inl (n : Int)
  | _, _, .nil => rfl
  | _, _, .cons h t => by
    rw [List.map_cons, List.map_cons, List.map_cons, KWs.keys t, h.1]
theorem inl_mem {n : Nat} {l : List Nat} : (Sum.inl (n : Int) : Key) ∈ l.map (fun n : Nat => (Sum.inl (n : Int) : Key)) ↔ n ∈ l := by
  constructor
  · intro h
    obtain ⟨m, hm, e⟩ := List.mem_map.mp h
    have : m = n := by have := Sum.inl.inj e; omega
    exact this ▸ hm
  · exact fun h => List.mem_map.mpr ⟨n, h, rfl⟩
theorem inl_nodup {l : List Nat} (h : l.Nodup) : (l.map fun n : Nat => (Sum.inl (n : Int) : Key)).Nodup := by
  refine List.pairwise_map.mpr (h.imp fun hn e => hn ?_)
  have := Sum.inl.inj e
  omega
theorem KWs.none_ {H : Hp} {kvs : List (Key × V)} {ws : List (List Nat)} (h : Paired (KW H) kvs ws) {n : Nat} (hn : n ∉ ws.map lst) : valV kvs (.inl (n : Int)) = none := by
  refine valV_none_of ?_
  rw [KWs.keys h, inl_mem]
  exact hn
theorem KWs.get {H : Hp} : ∀ {kvs : List (Key × V)} {ws : List (List Nat)}, Paired (KW H) kvs ws → (ws.map lst).Nodup → ∀ {w : List Nat}, w ∈ ws → ∃ a, valV kvs (.inl ((lst w : Nat) : Int)) = some (.ref a) ∧ H a = some (.lst (nV w))
  | _, _, .nil, _, _, hw => by simp at hw
  | _, _, @Paired.cons _ _ _ kv w0 kvs ws h t, nd, w, hw => by
    rw [List.map_cons, List.nodup_cons] at nd
    rcases List.mem_cons.mp hw with e | e
    · subst e
      obtain ⟨h1, a, h2, h3⟩ := h
      exact ⟨a, by rw [valV_pos h1, h2], h3⟩
    · obtain ⟨a, h1, h2⟩ := KWs.get t nd.2 e
      refine ⟨a, ?_, h2⟩
      rw [valV_neg fun z => ?_]
      · exact h1
      · rw [h.1] at z
        have : lst w0 = lst w := by have := Sum.inl.inj z; omega
        exact nd.1 (this ▸ List.mem_map.mpr ⟨w, e, rfl⟩)
theorem KWs.has {H : Hp} {kvs : List (Key × V)} {ws : List (List Nat)} (h : Paired (KW H) kvs ws) (n : Nat) : (valV kvs (.inl (n : Int))).isSome = decide (n ∈ ws.map lst) := by
  by_cases c : n ∈ ws.map lst
  · obtain ⟨v, e⟩ := valV_some_of (kvs := kvs) (k := .inl (n : Int)) (by rw [KWs.keys h, inl_mem]; exact c)
    rw [e, decide_eq_true c]; rfl
  · rw [KWs.none_ h c, decide_eq_false c]; rfl
theorem Paired.snoc {α β : Type} {F : α → β → Prop} {a : α} {b : β} (hf : F a b) : ∀ {l : List α} {m : List β}, Paired F l m → Paired F (l ++ [a]) (m ++ [b])
  | _, _, .nil => .cons hf .nil
  | _, _, .cons h t => .cons h (Paired.snoc hf t)
theorem Paired.len {α β : Type} {F : α → β → Prop} : ∀ {l : List α} {m : List β}, Paired F l m → l.length = m.length
  | _, _, .nil => rfl
  | _, _, .cons _ t => by rw [List.length_cons, List.length_cons, Paired.len t]

/-- the dict of the paths from f -/
structure PK (H : Hp) (kvs : List (Key × V)) (q : Project) (f : Nat) : Prop where
  nd : (kvs.map (·.1)).Nodup
  ks : ∃ ks : List Nat, kvs.map (·.1) = ks.map (fun n : Nat => Sum.inl (n : Int)) ∧ ks.Nodup ∧ ∀ g, g ∈ ks ↔ g ∈ Vbjbaj.reachedFrom q f
  at_ : ∀ g, g ∈ Vbjbaj.reachedFrom q f → ∃ a l, valV kvs (.inl (g : Int)) = some (.ref a) ∧ H a = some (.lst (nV l)) ∧ Vbjbaj.path q f g = some l
theorem PK.same {H H' : Hp} {kvs : List (Key × V)} {q : Project} {f : Nat} (e : Same H H') (h : PK H kvs q f) : PK H' kvs q f :=
  ⟨h.nd, h.ks, fun g hg => by obtain ⟨a, l, h1, h2, h3⟩ := h.at_ g hg; exact ⟨a, l, h1, e _ _ h2, h3⟩⟩
theorem PK.none_ {H : Hp} {kvs : List (Key × V)} {q : Project} {f g : Nat} (h : PK H kvs q f) (hg : g ∉ Vbjbaj.reachedFrom q f) : valV kvs (.inl (g : Int)) = none := by
  obtain ⟨ks, e, _, m⟩ := h.ks
  refine valV_none_of ?_
  rw [e, inl_mem, m]
  exact hg
theorem PK.of {H : Hp} {kvs : List (Key × V)} {q : Project} {f : Nat} (G : Graph (Vbjbaj.importsOf q)) (hf : f < 10) {dn : List (List Nat)} (b : Bfs (Vbjbaj.importsOf q) f dn []) (h : Paired (KW H) kvs dn) : PK H kvs q f := by
  have nd : (dn.map lst).Nodup := by have := b.nd; rwa [List.append_nil] at this
  refine ⟨by rw [KWs.keys h]; exact inl_nodup nd, ⟨dn.map lst, KWs.keys h, nd, fun g => b.mem G hf⟩, fun g hg => ?_⟩
  obtain ⟨w, hw, e⟩ := List.mem_map.mp ((b.mem G hf).mpr hg)
  obtain ⟨a, h1, h2⟩ := KWs.get h nd hw
  subst e
  exact ⟨a, w, h1, h2, b.path G hf hw⟩

def sp_paths_from (K : PySem.W.Frag) (A : Ad) : Sp := fun vs H Q _ => ∃ (d : Addr) (f t : Nat) (lv : V) (p : Project) (l : List (Nat × Nat)), vs = [.ref d, .int (f : Int), lv] ∧ f < 10 ∧ PWf t p ∧ FilesAt A.File H d p ∧ LeftAt K H lv l ∧
  ∀ H' r kvs, Same H H' → H r = none → H' r = some (.dK kvs) → PK H' kvs (Vbjbaj.withoutImports p l) f → Q (.ref r) H'
/-- the state of the search: the dict at df, the queue at dl -/
structure SrcH (H0 H : Hp) (df dl : Addr) (ws : List (List Nat)) (line : List Nat) : Prop where
  same : Same H0 H
  ff : H0 df = none
  fl : H0 dl = none
  ne : df ≠ dl
  kv : ∃ kvs, H df = some (.dK kvs) ∧ Paired (KW H) kvs ws ∧ ∀ kv ∈ kvs, kv.2 ≠ .ref dl
  ln : H dl = some (.lst (nV line))
theorem SrcH.more {H0 H H' : Hp} {df dl : Addr} {ws : List (List Nat)} {line : List Nat} (s : SrcH H0 H df dl ws line) (e : Same H H') : SrcH H0 H' df dl ws line := by
  obtain ⟨kvs, h1, h2, h3⟩ := s.kv
  exact ⟨s.same.trans e, s.ff, s.fl, s.ne, ⟨kvs, e _ _ h1, KWs.same e h2, h3⟩, e _ _ s.ln⟩
theorem KWs.put {H : Hp} {d : Addr} {o : HO} {kvs : List (Key × V)} {ws : List (List Nat)} (h : Paired (KW H) kvs ws) (hd : ∀ w, H d ≠ some (.lst w)) : Paired (KW (upd H d o)) kvs ws :=
  Paired.mapP h fun kv w ⟨h1, a, h2, h3⟩ => ⟨h1, a, h2, by rw [upd_ne fun z => hd _ (z ▸ h3)]; exact h3⟩
theorem KWs.put2 {H : Hp} {d : Addr} {o : HO} {kvs : List (Key × V)} {ws : List (List Nat)} (h : Paired (KW H) kvs ws) (hd : ∀ kv ∈ kvs, kv.2 ≠ .ref d) : Paired (KW (upd H d o)) kvs ws := by
  induction h with
  | nil => exact .nil
  | @cons kv w kvs ws h t ih =>
    obtain ⟨h1, a, h2, h3⟩ := h
    refine .cons ⟨h1, a, h2, ?_⟩ (ih fun kv hkv => hd kv (List.mem_cons_of_mem _ hkv))
    rw [upd_ne fun z => hd _ List.mem_cons_self (by rw [h2, z])]
    exact h3

theorem SrcH.pop {H0 H : Hp} {df dl : Addr} {ws : List (List Nat)} {line line' : List Nat} (s : SrcH H0 H df dl ws line) : SrcH H0 (upd H dl (.lst (nV line'))) df dl ws line' := by
  obtain ⟨kvs, h1, h2, h3⟩ := s.kv
  exact ⟨Same.put s.same s.fl, s.ff, s.fl, s.ne, ⟨kvs, by rw [upd_ne s.ne]; exact h1, KWs.put2 h2 h3, h3⟩, upd_same⟩
/-- a new path at a -/
theorem SrcH.push {H0 H : Hp} {df dl a : Addr} {ws : List (List Nat)} {w line : List Nat} (s : SrcH H0 H df dl ws line) (ha : H a = some (.lst (nV w))) (hne : a ≠ dl) (hn : lst w ∉ ws.map lst) :
    ∀ kvs, H df = some (.dK kvs) → SrcH H0 (upd H df (.dK (putK kvs (.inl ((lst w : Nat) : Int)) (.ref a)))) df dl (ws ++ [w]) line := by
  intro kvs e
  obtain ⟨kvs', h1, h2, h3⟩ := s.kv
  rw [e] at h1
  cases h1
  have none_ := KWs.none_ h2 hn
  rw [putK_new _ none_]
  refine ⟨Same.put s.same s.ff, s.ff, s.fl, s.ne, ⟨_, upd_same, ?_, fun kv hkv => ?_⟩, by rw [upd_ne s.ne.symm]; exact s.ln⟩
  · refine Paired.snoc ⟨rfl, a, rfl, ?_⟩ (KWs.put h2 fun w z => by rw [e] at z; cases z)
    rw [upd_ne fun z => ?_]
    · exact ha
    · rw [z, e] at ha; cases ha
  · rcases List.mem_append.mp hkv with q | q
    · exact h3 kv q
    · rw [List.mem_singleton.mp q]
      intro z
      exact hne (by cases z; rfl)
theorem seq0 (n : Nat) : seqIndex? 0 (n + 1) = some 0 := by
  unfold seqIndex?
  simp
  try omega
theorem tru_list {K : PySem.W.Frag} {H : Hp} {a : Addr} {xs : List V} {b : Bool} (h : SqL K H a xs) (e : b = !xs.isEmpty) : TruV K (.ref a) H b := .inl ⟨xs, h, e⟩
/-- the while's word -/
def PfW (nx : Nat → List Nat) (H0 : Hp) (d : Addr) (n : Nat) (lv : V) (df dl : Addr) (m : Nat) (σ : L2.St) (H : Hp) : Prop :=
  ∃ (dn td : List (List Nat)) (x5 x6 : Option V), σ = [some (.ref d), some (.int (n : Int)), some lv, some (.ref df), some (.ref dl), x5, x6] ∧ m = 10 - dn.length ∧ Bfs nx n dn td ∧ SrcH H0 H df dl (dn ++ td) (td.map lst)
/-- the for's word -/
def PfN (nx : Nat → List Nat) (H0 : Hp) (d : Addr) (n : Nat) (lv : V) (df dl r : Addr) (dn : List (List Nat)) (u : List Nat) (i : Nat) (σ : L2.St) (H : Hp) : Prop :=
  ∃ (td : List (List Nat)) (x6 : Option V), σ = [some (.ref d), some (.int (n : Int)), some lv, some (.ref df), some (.ref dl), some (.int ((lst u : Nat) : Int)), x6] ∧ BfsIn nx n dn u td ((nx (lst u)).take i) ∧ SrcH H0 H df dl (dn ++ u :: td) (td.map lst) ∧ H r = some (.lst (nV (nx (lst u))))
theorem ok_paths_from (T : Txt K mg A) (C_next_numbers : Cal P w K mg base CX0 1 "next_numbers" ["files", "number", "left"] (sp_next_numbers K A)) {f : Addr} {fd : FuncData} (F : Fun K "paths_from" "paths_from" s_paths_from f fd) : FnOk P w K mg base CX0 2 f fd ["files", "number", "left"] (sp_paths_from K A) := by
  refine F.ok sc_paths_from (fun vs H Q E h => by obtain ⟨d, n, t, lv, p, l, rfl, _⟩ := h; rfl) (fun cdv A' outer s H vs Q E hr h => ?_)
  have hu := hu_of hr
  refine ⟨_, (pss_cons (ps_par (i := 3) (j := 4) (by rfl) sc_paths_from.nd rfl rfl (by decide) rfl rfl (pa_cons (pe_disp (pps_cons (pv 1) (pe_lst (pa_cons (pv 1) pa_nil)) pps_nil) (by rfl) (by rfl) (fun z => by cases z) (by decide)) (pa_cons (pe_lst (pa_cons (pv 1) pa_nil)) pa_nil)) (by rfl))
(pss_cons (ps_while PassesOwn.never (pt_truth (pv 4) (by intro _; rfl)) (pss_cons (ps_set (i := 5) sc_paths_from.nd rfl (Or.inl rfl) (pe_bm PySem.F.plainAttrs_list PySem.F.slot_list_pop PySem.F.type_list_pop mt_popAt (pv 4) (pa_cons pe_int pa_nil)))
(pss_one (ps_for PassesOwn.never rfl (pi_list (pe_cal C_next_numbers (hr.mono (by decide)) pass0 (pa_cons (pv 0) (pa_cons (pv 5) (pa_cons (pv 2) pa_nil))))) (pg_name (i := 6) sc_paths_from.nd rfl (Or.inl rfl)) (pss_one (ps_if (pt_cmp (pc_dnotin hu (pv 6) (pv 3)) (by rfl)) (pss_cons (ps_dput hu (pv 3) (pv 6) (pe_op op_cat (pe_dget hu (pv 3) (pv 5) (fun _ _ => rfl)) (pe_lst (pa_cons (pv 6) pa_nil))) rfl)
(pss_one (ps_expr (pe_bm PySem.F.plainAttrs_list PySem.F.slot_list_append PySem.F.type_list_append mt_append (pv 4) (pa_cons (pv 6) pa_nil))))) pss_nil))))))
(pss_one (ps_ret (pv 3))))), ?_⟩
  obtain ⟨d, f, t, lv, p, l, rfl, hf, pw, fa, la, k⟩ := h
  have G : Graph (Vbjbaj.importsOf (Vbjbaj.withoutImports p l)) := graph_without pw.graph l
  intro df hdf
  refine ⟨_, rfl, _, rfl, by show 1 ≤ sizeLine; decide, fun a0 ha0 => ?_⟩
  have ne0 : a0 ≠ df := fun z => by rw [z, upd_same] at ha0; cases ha0
  refine ⟨by rw [upd_ne ne0.symm, upd_same], [(.inl (f : Int), .ref a0)], rfl, by show 1 ≤ 15; decide, ?_⟩
  refine ⟨_, rfl, by show 1 ≤ sizeLine; decide, fun dl hdl => ?_⟩
  refine ⟨_, _, rfl, ?_⟩
  have hdl' : H dl = none := by
    by_cases c1 : dl = df
    · rw [c1, upd_same] at hdl; cases hdl
    · by_cases c2 : dl = a0
      · rw [c2, upd_ne ne0, upd_same] at hdl; cases hdl
      · rw [upd_ne c1, upd_ne c2, upd_ne c1] at hdl; exact hdl
  have nel : df ≠ dl := fun z => by rw [← z, upd_same] at hdl; cases hdl
  have nel0 : a0 ≠ dl := fun z => by rw [← z, upd_ne ne0, upd_same] at hdl; cases hdl
  have ha0' : H a0 = none := by rwa [upd_ne ne0] at ha0
  refine ⟨PfW (Vbjbaj.importsOf (Vbjbaj.withoutImports p l)) H d f lv df dl, ⟨10, [], [[f]], none, none, rfl, rfl, Bfs.start _ _, ?_⟩, ?_⟩
  · refine ⟨Same.put (Same.put (Same.put (Same.new hdf) ha0') hdf) hdl', hdf, hdl', nel, ⟨[(.inl (f : Int), .ref a0)], ?_, ?_, fun kv hkv => ?_⟩, upd_same⟩
    · rw [upd_ne nel, upd_same]
      rfl
    · refine .cons ⟨rfl, a0, rfl, ?_⟩ .nil
      rw [upd_ne nel0, upd_ne ne0, upd_same]
      rfl
    · rw [List.mem_singleton.mp hkv]
      exact fun z => nel0 (by cases z; rfl)
  · rintro m σ H1 ⟨dn, td, x5, x6, rfl, rfl, b, sh⟩
    cases td with
    | nil =>
      refine ⟨_, rfl, false, tru_list (SqL.of sh.ln) rfl, iteF ⟨_, rfl, ?_⟩⟩
      obtain ⟨kvs, h1, h2, _⟩ := sh.kv
      rw [List.append_nil] at h2
      exact k H1 df kvs sh.same sh.ff h1 (PK.of G hf b h2)
    | cons u td =>
      have szb := b.size G hf
      have szu : u.length ≤ 10 := b.short G hf (by simp)
      have hlt : dn.length < 10 := by simp at szb; omega
      refine ⟨_, rfl, true, tru_list (SqL.of sh.ln) rfl, iteT ⟨fun σ' H' => ∃ m', m' < 10 - dn.length ∧ PfW (Vbjbaj.importsOf (Vbjbaj.withoutImports p l)) H d f lv df dl m' σ' H', fun _ _ z => z, ?_⟩⟩
      refine ⟨_, rfl, .inl ⟨rfl, _, SqL.of sh.ln⟩, dl, _, 0, 0, _, rfl, rfl, sh.ln, by decide, by decide, seq0 _, rfl, ?_⟩
      have sh1 : SrcH H (upd H1 dl (.lst (nV (td.map lst)))) df dl (dn ++ u :: td) (td.map lst) := sh.pop
      refine ⟨_, rfl, _, rfl, _, rfl, d, lst u, t, lv, p, l, rfl, pw, fa.same sh1.same, la.same sh1.same, fun H2 r sm hr0 hr1 => ?_⟩
      refine ⟨r, rfl, ⟨_, SqL.of hr1⟩, for_list (K := K) (a := r) (xs := nV (Vbjbaj.importsOf (Vbjbaj.withoutImports p l) (lst u))) (PfN (Vbjbaj.importsOf (Vbjbaj.withoutImports p l)) H d f lv df dl r dn u) ⟨td, x6, rfl, b.into, sh1.more sm, hr1⟩ (fun i σ H' _ ⟨_, _, _, _, _, q⟩ => SqL.of q) ?_ ?_⟩
      · rintro i y σ H3 hy ⟨td', x6', rfl, bi, sh3, hr3⟩
        obtain ⟨v, hv, rfl⟩ := nV_at hy
        have ev := take_succ' hv
        obtain ⟨kvs, h1, h2, h3⟩ := sh3.kv
        have lenk : kvs.length ≤ 10 := by
          have := bi.size G hf
          rw [Paired.len h2]; exact this
        refine ⟨_, rfl, _, rfl, df, _, rfl, DGet.k (k := .inl (v : Int)) h1, _, rfl, ?_⟩
        rw [KWs.has h2]
        refine ite2 (fun c => ?_) (fun c => ?_)
        · have c' : v ∉ (dn ++ u :: td').map lst := by simpa using c
          have nd : ((dn ++ u :: td').map lst).Nodup := bi.nd
          obtain ⟨a, g1, g2⟩ := KWs.get h2 nd (w := u) (by simp)
          have vm : v ∈ Vbjbaj.importsOf (Vbjbaj.withoutImports p l) (lst u) := List.mem_of_getElem? hv
          have bi' := bi.more c' vm (fun v' hv' => by
            have up := G.up (lst u)
            rw [← List.take_append_drop (i + 1) (Vbjbaj.importsOf (Vbjbaj.withoutImports p l) (lst u)), ev] at up
            have := (List.pairwise_append.mp up).1
            exact (List.pairwise_append.mp this).2.2 v' hv' v (by simp))
          rw [← ev] at bi'
          refine ⟨_, rfl, _, rfl, df, _, rfl, .inl ⟨kvs, .inl ((lst u : Nat) : Int), .inl h1, rfl, g1.symm⟩, _, rfl, by show 1 ≤ sizeLine; decide, fun pn hpn => ?_⟩
          refine ⟨a, pn, _, _, rfl, rfl, by rw [upd_ne fun z => by rw [z, hpn] at g2; cases g2]; exact g2, upd_same, by rw [nV_len]; show u.length + 1 ≤ sizeLine; rw [sizeLine_eq]; omega, fun pq hpq => ?_⟩
          have s1 : Same H3 (upd (upd H3 pn (.lst [.int (v : Int)])) pq (.lst (nV u ++ [.int (v : Int)]))) := Same.neu (Same.new hpn) hpq
          have sh4 := sh3.more s1
          have e1 := s1 _ _ h1
          have ew : nV u ++ [V.int (v : Int)] = nV (u ++ [v]) := (nV_snoc _ _).symm
          have sh5 := sh4.push (a := pq) (w := u ++ [v]) (by rw [upd_same, ew]) (fun z => by rw [z, upd_ne (fun y => by rw [← y, sh3.ln] at hpn; cases hpn), sh3.ln] at hpq; cases hpq) (by rw [lst_snoc]; exact c') kvs e1
          rw [lst_snoc] at sh5
          refine ⟨_, rfl, _, rfl, df, _, rfl, DPut.k (k := .inl (v : Int)) e1 (small1000 (by omega)), ?_⟩
          refine ⟨_, rfl, .inl ⟨rfl, _, SqL.of sh5.ln⟩, _, rfl, dl, _, _, rfl, rfl, sh5.ln, by rw [nV_len, List.length_map]; have := bi.size G hf; simp at this; exact small1000 (by omega), ?_⟩
          refine ⟨td' ++ [u ++ [v]], _, rfl, bi', ?_, ?_⟩
          · have := sh5.pop (line' := (td' ++ [u ++ [v]]).map lst)
            have e2 : nV ((td' ++ [u ++ [v]]).map lst) = nV (td'.map lst) ++ [V.int (v : Int)] := by
              rw [List.map_append, show [u ++ [v]].map lst = [v] by simp [lst_snoc], nV_snoc]
            rw [e2] at this
            have e3 : dn ++ u :: (td' ++ [u ++ [v]]) = dn ++ u :: td' ++ [u ++ [v]] := by simp
            rw [e3]
            exact this
          · have : r ≠ dl := fun z => by
              rw [z] at hr0
              rw [upd_same] at hr0
              cases hr0
            have h' : r ≠ df := fun z => by
              have hr0' : upd H1 dl (.lst (nV (td.map lst))) r = none := hr0
              rw [z, sh1.kv.choose_spec.1] at hr0'
              cases hr0'
            rw [upd_ne this, upd_ne h']
            exact s1 _ _ hr3
        · have c' : v ∈ (dn ++ u :: td').map lst := by
            by_cases q : v ∈ (dn ++ u :: td').map lst
            · exact q
            · rw [decide_eq_false q] at c
              exact absurd rfl c
          have bi' := bi.skip c'
          rw [← ev] at bi'
          exact ⟨td', _, rfl, bi', sh3, hr3⟩
      · rintro σ H3 ⟨td', x6', rfl, bi, sh3, hr3⟩
        rw [nV_len, List.take_length] at bi
        refine ⟨10 - (dn ++ [u]).length, by simp; omega, dn ++ [u], td', _, _, rfl, rfl, bi.out, ?_⟩
        have e3 : dn ++ [u] ++ td' = dn ++ u :: td' := by simp
        rw [e3]
        exact sh3
end
end Sf
/-! W5: a walk over a new dict's keys; seen. -/
namespace Sf
open PySem PySem.Spec PyProof.Rows L2
open Vbjbaj (Statement File Project)
/-- a dict is walked that nobody changes any more: it stays locked -/
def iKeysL (td : TE) : TI := fun σ H R => td σ H fun x H1 => ∃ d kvs, x = .ref d ∧ H1 d = some (.dK kvs) ∧ ∀ o, R (Itk d o kvs) (upd H1 d (.frz o (.dK kvs)))
theorem pi_keysL {X : Cx} {tg e : Expr} {td : TE} (he : PE X e td) : PI X tg e (iKeysL td) := by
  refine ⟨fun pins s σ H R I h => ?_⟩
  refine thn (he.run pins s σ H _ I h) fun u s1 ⟨x, H1, I1, rx, d, kvs, ex, hd, q⟩ => ?_
  subst ex
  obtain rfl : u = Value.ref d := rx
  obtain ⟨od, I2⟩ := I1.lock hd True.intro
  have hf : upd H1 d (.frz od (.dK kvs)) d = some (.frz od (.dK kvs)) := upd_same
  obtain ⟨hs, hgd, hx, es, ep, vs, hdt, hsz, kv, hm⟩ := I2.frzK hf
  refine iter_keys hs hgd hx hdt (pi_one (tk := s1.toks) I2 _ (turn_keys _ hdt) ⟨_, Heap.get?_push_size _ rfl, rfl, ?_⟩ (q od))
  rw [hsz] <;> rfl
theorem Same.lock {H H1 : Hp} {d : Addr} {u : HO} (s : Same H H1) (hd : H d = none) : Same H (upd H1 d u) := Same.put s hd
theorem keys_at' {kvs : List (Key × V)} {ks : List Nat} (e : kvs.map (·.1) = ks.map fun n : Nat => Sum.inl (n : Int)) {i : Nat} {k : Key} {v : V} (h : kvs[i]? = some (k, v)) : ∃ n, ks[i]? = some n ∧ k = .inl (n : Int) := by
  have h1 : (kvs.map (·.1))[i]? = some k := by rw [List.getElem?_map, h]; rfl
  rw [e, List.getElem?_map] at h1
  cases h2 : ks[i]? with
  | none => rw [h2] at h1; cases h1
  | some n => rw [h2] at h1; exact ⟨n, rfl, (Option.some.inj h1).symm⟩
section
variable {P : Program} {w : World} {K : PySem.W.Frag} {mg : Str → Option Value} {base : Heap} {A : Ad}
theorem visible_up {p : Project} {f : Nat} : (Vbjbaj.visible p f).Pairwise (· < ·) := List.Pairwise.filter _ reached_up
theorem reached_size {p : Project} {f : Nat} : (Vbjbaj.reachedFrom p f).length ≤ 10 := lt_of_nodup 10 _ (reached_up.imp fun h => Nat.ne_of_lt h) fun _ => reached_lt
theorem visible_size {p : Project} {f : Nat} : (Vbjbaj.visible p f).length ≤ 10 := Nat.le_trans (List.length_filter_le _ _) reached_size
theorem ks_size {p : Project} {f : Nat} {ks : List Nat} (nd : ks.Nodup) (h : ∀ g, g ∈ ks ↔ g ∈ Vbjbaj.reachedFrom p f) : ks.length ≤ 10 := lt_of_nodup 10 _ nd fun x hx => reached_lt ((h x).mp hx)
theorem map_len {α β γ : Type} {f : α → γ} {g : β → γ} {l : List α} {m : List β} (e : l.map f = m.map g) : l.length = m.length := by
  have := congrArg List.length e
  simpa using this
def sp_seen (A : Ad) : Sp := fun vs H Q _ => ∃ (d : Addr) (f t : Nat) (p : Project), vs = [.ref d, .int (f : Int)] ∧ f < 10 ∧ PWf t p ∧ FilesAt A.File H d p ∧ ∀ H' r, Same H H' → H r = none → H' r = some (.lst (nV (Vbjbaj.visible p f))) → Q (.ref r) H'
theorem ok_seen (T : Txt K mg A) (C_paths_from : Cal P w K mg base CX0 2 "paths_from" ["files", "number", "left"] (sp_paths_from K A)) {f : Addr} {fd : FuncData} (F : Fun K "seen" "seen" s_seen f fd) : FnOk P w K mg base CX0 3 f fd ["files", "number"] (sp_seen A) := by
  refine F.ok sc_seen (fun vs H Q E h => by obtain ⟨d, n, t, p, rfl, _⟩ := h; rfl) (fun cdv A' outer s H vs Q E hr h => ?_)
  have hu := hu_of hr
  refine ⟨_, (pss_one (ps_ret (pe_callB cr_sortedI (by rfl) T.b_sorted (by decide +kernel) (pa_cons (pe_lc (own := [("other", 2)]) (g := (gName 2)) (tt := (tB (tDIn (tVar 2) (tVar 0)))) (te := (tVar 2)) (by rfl) sc_seen.nd (pi_keysL (pe_cal C_paths_from (hr.mono (by decide)) pass0 (pa_cons (pv 0) (pa_cons (pv 1) (pa_cons (pe_tup pa_nil) pa_nil))))) (blkOk_by (own := [("other", 2)]) (N := N_seen) (sc := defScope s_seen) (by decide +kernel)) (fun _ _ _ _ _ => (pg_name (i := 2) sc_seen.nd rfl (Or.inl rfl))) (fun _ _ _ _ _ => pts_one (pt_cmp (pc_din hu (pv 2) (pv 0)) (by rfl))) (fun _ _ _ _ _ => (pv 2))) pa_nil)))), ?_⟩
  obtain ⟨d, f, t, p, rfl, hf, pw, fa, k⟩ := h
  refine ⟨_, rfl, _, rfl, by show 0 ≤ sizeLine; decide, fun q0 hq0 => ?_⟩
  have s0 : Same H (upd H q0 (.tup [])) := Same.new hq0
  refine ⟨d, f, t, .ref q0, p, [], rfl, hf, pw, fa.same s0, ⟨q0, rfl, .inl ⟨rfl, SqT.of upd_same⟩⟩, fun H1 r kvs s1 hr0 hr1 pk => ?_⟩
  rw [without_nil] at pk
  obtain ⟨ks, eks, nks, mks⟩ := pk.ks
  have s01 : Same H H1 := s0.trans s1
  have hrH : H r = none := s0.free hr0
  refine ⟨r, kvs, rfl, hr1, fun o D hD => ?_⟩
  have s2 : Same H (upd H1 r (.frz o (.dK kvs))) := Same.put s01 hrH
  refine lc_it (walk_keys (d := r) (o := o) (kvs := kvs)) (LcP (upd H1 r (.frz o (.dK kvs))) D (Fil ks (Vbjbaj.doesExist p) fun m : Nat => V.int (m : Int))) (LcP.start hD rfl) (fun i H' _ pv => pv.1 _ _ upd_same) ?_ ?_
  · rintro i y H2 H3 hi pv ⟨rfl, kk, v, hkv, rfl⟩
    obtain ⟨n, hn, rfl⟩ := keys_at' eks hkv
    obtain ⟨oo, g, ho⟩ := (fa.same (s2.trans pv.1)).has n
    refine ⟨rfl, _, rfl, _, rfl, d, oo, rfl, g, _, rfl, ?_⟩
    rw [ho]
    refine ite2 (fun c => ⟨_, rfl, ?_⟩) (fun c => ?_)
    · exact pv.push hD (Same.refl _) (Fil.yes hn c) (Fil.lt (by have := ks_size nks mks; omega))
    · exact pv.skip (Same.refl _) (Fil.no hn (by simpa using c))
  · intro H2 pv
    have e2 : kvs.length = ks.length := map_len eks
    have pv2 := pv.2
    rw [e2, Fil.all] at pv2
    refine ⟨D, (ks.filter (Vbjbaj.doesExist p)).map fun n : Nat => (n : Int), rfl, SqL.of (by rw [pv2, List.map_map]; rfl), fun ys q hperm hsort hq => ?_⟩
    refine k _ q (Same.neu (s2.trans pv.1) hq) ((s2.trans pv.1).free hq) ?_
    rw [upd_same, sorted_up hperm hsort (nks.filter _) visible_up fun x => ?_]
    show x ∈ ks.filter _ ↔ x ∈ (Vbjbaj.reachedFrom p f).filter _
    rw [List.mem_filter, List.mem_filter, mks x]
end
end Sf
/-! W6: sorted of a dict whose keys are statements. -/
namespace SfS
open PySem PySem.Spec PyProof.Rows SrtO
open Vbjbaj (Statement)
theorem before_iff {a b : Statement} : Vbjbaj.isBefore a b = true ↔ a.kind < b.kind ∨ (a.kind = b.kind ∧ (a.form < b.form ∨ (a.form = b.form ∧ a.other < b.other))) := by
  unfold Vbjbaj.isBefore
  simp
theorem before_no {a b : Statement} : Vbjbaj.isBefore a b = false ↔ ¬ (a.kind < b.kind ∨ (a.kind = b.kind ∧ (a.form < b.form ∨ (a.form = b.form ∧ a.other < b.other)))) := by
  rw [← before_iff]
  cases Vbjbaj.isBefore a b <;> simp
theorem swo_before {α : Type} (k : α → Statement) : Swo fun v u => Vbjbaj.isBefore (k v) (k u) := by
  refine ⟨fun x y h => ?_, fun x y z h1 h2 => ?_⟩
  · have a := before_iff.mp h
    refine before_no.mpr ?_
    omega
  · have a := before_no.mp h1
    have b := before_no.mp h2
    refine before_no.mpr ?_
    omega
/-- v is a tuple of the statement's three numbers -/
def IsSt (h : Heap) (v : Value) (s : Statement) : Prop := ∃ a o t u r n, v = .ref a ∧ h.get? a = some o ∧ o.cls = .type "tuple" ∧ o.data = .seq #[.int (s.kind : Int) t, .int (s.form : Int) u, .int (s.other : Int) r] n
theorem IsSt.keeps {h h' : Heap} {v : Value} {s : Statement} (p : IsSt h v s) (k : ∀ b o, h.get? b = some o → o.cls = .type "tuple" → h'.get? b = some o) : IsSt h' v s := by
  obtain ⟨a, o, t, u, r, n, e, ho, hc, hd⟩ := p
  exact ⟨a, o, t, u, r, n, e, k _ _ ho hc, hc, hd⟩
theorem IsSt.uniq {h : Heap} {v : Value} {s s' : Statement} (p : IsSt h v s) (q : IsSt h v s') : s = s' := by
  obtain ⟨a, o, t, u, r, n, e, ho, hc, hd⟩ := p
  obtain ⟨a', o', t', u', r', n', e', ho', hc', hd'⟩ := q
  rw [e] at e'
  cases e'
  rw [ho] at ho'
  cases ho'
  rw [hd] at hd'
  obtain ⟨k1, k2, k3⟩ := s
  obtain ⟨j1, j2, j3⟩ := s'
  simp only [PySem.Data.seq.injEq] at hd'
  have := hd'.1
  simp at this
  obtain ⟨⟨h1, _⟩, ⟨h2, _⟩, h3, _⟩ := this
  have : k1 = j1 := by omega
  have : k2 = j2 := by omega
  have : k3 = j3 := by omega
  subst_vars
  rfl
section
variable {prog : Program} {w : World} {A : Around} {E : Value → Shared → Prop} {s : Shared}
theorem st_cmp {vs : List Value} {k : Value → Statement} (hp : ∀ v ∈ vs, IsSt s.heap v (k v)) : Cmp prog w A s (tuples' true) (fun p => p.1 ∈ vs) (lt2 fun v u => Vbjbaj.isBefore (k v) (k u)) := by
  intro p q hm hm'
  have h1 := hp _ hm
  have h2 := hp _ hm'
  show wpAny (model prog w) A (keyLt' (tuples' true) p.1 q.1) (fun r s' => s' = s ∧ r = Vbjbaj.isBefore (k p.1) (k q.1)) (fun _ _ => False) s
  generalize k p.1 = x at h1 ⊢
  generalize k q.1 = y at h2 ⊢
  obtain ⟨a, o, t, u, r, n, e, ho, hc, hd⟩ := h1
  obtain ⟨a', o', t', u', r', n', e', ho', hc', hd'⟩ := h2
  rw [e, e']
  refine PySem.W.kat_lt ho hd ho' hd' ?_
  show PySem.W.KatLex prog w A true (decide (3 < 3)) _ [(.int (x.kind : Int) t, .int (y.kind : Int) t'), (.int (x.form : Int) u, .int (y.form : Int) u'), (.int (x.other : Int) r, .int (y.other : Int) r')] 0 s
  refine PySem.W.kat_cons (SeqAt.EqAt.int_int _ t _ t' prog w _ _ ?_)
  refine PySem.W.kat_go (fun e1 => ?_) (fun e1 => ?_)
  · have e1' : (x.kind : Int) = (y.kind : Int) := by simpa using e1
    refine PySem.W.kat_yes (PySem.W.kat_cons (SeqAt.EqAt.int_int _ u _ u' prog w _ _ ?_))
    refine PySem.W.kat_go (fun e2 => ?_) (fun e2 => ?_)
    · have e2' : (x.form : Int) = (y.form : Int) := by simpa using e2
      refine PySem.W.kat_yes (PySem.W.kat_cons (SeqAt.EqAt.int_int _ r _ r' prog w _ _ ?_))
      refine PySem.W.kat_go (fun e3 => ?_) (fun e3 => ?_)
      · have e3' : (x.other : Int) = (y.other : Int) := by simpa using e3
        refine PySem.W.kat_yes (PySem.W.kat_nil ⟨rfl, ?_⟩)
        have := before_no (a := x) (b := y)
        refine Eq.trans (by rfl : _ = false) (this.mpr ?_).symm
        omega
      · have e3' : ¬ (x.other : Int) = (y.other : Int) := by simpa using e3
        refine PySem.W.kat_no (PySem.W.kat_one _ _ (PyProof.Rows.lt_int ?_))
        refine (show s = s ∧ decide ((x.other : Int) < (y.other : Int)) = Vbjbaj.isBefore x y from ⟨rfl, ?_⟩)
        by_cases c : (x.other : Int) < (y.other : Int)
        · rw [decide_eq_true c, before_iff.mpr (by omega)]
        · rw [decide_eq_false c, before_no.mpr (by omega)]
    · have e2' : ¬ (x.form : Int) = (y.form : Int) := by simpa using e2
      refine PySem.W.kat_no (PySem.W.kat_one _ _ (PyProof.Rows.lt_int ?_))
      refine (show s = s ∧ decide ((x.form : Int) < (y.form : Int)) = Vbjbaj.isBefore x y from ⟨rfl, ?_⟩)
      by_cases c : (x.form : Int) < (y.form : Int)
      · rw [decide_eq_true c, before_iff.mpr (by omega)]
      · rw [decide_eq_false c, before_no.mpr (by omega)]
  · have e1' : ¬ (x.kind : Int) = (y.kind : Int) := by simpa using e1
    refine PySem.W.kat_no (oneLt_int ⟨rfl, ?_⟩)
    by_cases c : (x.kind : Int) < (y.kind : Int)
    · rw [decide_eq_true c, before_iff.mpr (by omega)]
    · rw [decide_eq_false c, before_no.mpr (by omega)]
theorem firsts {h : Heap} {k : Value → Statement} : ∀ {vs : List Value}, (∀ v ∈ vs, IsSt h v (k v)) → ∃ fs : List Value, PySem.W.KatTups h vs fs ∧ fs.length = vs.length ∧ ∀ f ∈ fs, ∃ x t, f = Value.int x t
  | [], _ => ⟨[], PySem.W.KatTups.nil, rfl, fun _ hm => by simp at hm⟩
  | v :: vs, hp => by
    obtain ⟨fs, h1, h2, h3⟩ := firsts (vs := vs) fun v' hm => hp v' (List.mem_cons_of_mem _ hm)
    obtain ⟨a, o, t, u, r, n, e, ho, hc, hd⟩ := hp v List.mem_cons_self
    rw [e]
    refine ⟨.int ((k v).kind : Int) t :: fs, PySem.W.KatTups.cons ho hc hd rfl h1, by simp [h2], fun f hm => ?_⟩
    rcases List.mem_cons.mp hm with rfl | hm
    · exact ⟨_, t, rfl⟩
    · exact h3 f hm
theorem st_sortable {a : Addr} {vs : List Value} {k : Value → Statement} (h0 : 0 < vs.length) (hp : ∀ v ∈ vs, IsSt s.heap v (k v)) (ha : ∀ o, s.heap.get? a = some o → o.cls ≠ .type "tuple") : SortableO prog w A s a vs fun v u => Vbjbaj.isBefore (k v) (k u) := by
  intro h' keep
  have hp' : ∀ v ∈ vs, IsSt h' v (k v) := fun v hm => (hp v hm).keeps fun b o e c => keep b o (fun z => by subst z; exact ha o e c) e
  obtain ⟨fs, h1, h2, h3⟩ := firsts hp'
  refine ⟨tuples' true, fun Q E hq => ?_, st_cmp hp'⟩
  refine PySem.W.kat_kind (T := .type "int") h1 (by omega) (fun f hm => ?_) (by rfl) ?_
  · obtain ⟨x, t, rfl⟩ := h3 f hm
    exact PySem.W.Looks.now
  · have e : (Value.type "int" != Value.type "tuple") = true := by first | decide +kernel | rfl | decide
    rw [e]
    exact hq
end
end SfS
namespace Sf
open PySem PySem.Spec PyProof.Rows L2
open Vbjbaj (Statement File Project)
def stKey (s : Statement) : List Key := [.inl (s.kind : Int), .inl (s.form : Int), .inl (s.other : Int)]
theorem stKey_kV (s : Statement) : (stKey s).map kV = stT s := rfl
theorem stKey_inj {a b : Statement} (h : stKey a = stKey b) : a = b := by
  obtain ⟨k1, k2, k3⟩ := a
  obtain ⟨j1, j2, j3⟩ := b
  unfold stKey at h
  simp only [List.cons.injEq, Sum.inl.injEq, and_true] at h
  have : k1 = j1 := by omega
  have : k2 = j2 := by omega
  have : k3 = j3 := by omega
  subst_vars
  rfl
/-- sorted(d), d a dict whose keys are statements -/
def rSortD3 : List V → Hp → VK → Prop := fun xs H Q => ∃ (a : Addr) (kvs : List (List Key × V)) (ss : List Statement), xs = [.ref a] ∧ Rd H a (.dT kvs) ∧ kvs.map (·.1) = ss.map stKey ∧ ss.length ≤ 1000 ∧
  ∀ (vs : List V) (ys : List Statement) (p : Addr), ys.Perm ss → ys.Pairwise (fun x y => Vbjbaj.isBefore y x = false) → StL H vs ys → H p = none → Q (.ref p) (upd H p (.lst vs))
theorem KT_at {H : Hp} : ∀ {kvs : List (List Key × V)} {xs : List (List Key × Addr × Value)} {ss : List Statement}, KT H kvs xs → kvs.map (·.1) = ss.map stKey → Paired (fun (x : List Key × Addr × Value) s => H x.2.1 = some (.tup (stT s))) xs ss
  | _, _, [], .nil, _ => .nil
  | _, _, s :: ss, .cons h t, e => by
    simp only [List.map_cons, List.cons.injEq] at e
    refine .cons ?_ (KT_at t e.2)
    have := h.2.1
    rw [e.1, stKey_kV] at this
    exact this
  | _, _, _ :: _, .nil, e => by simp at e
  | _, _, [], .cons _ _, e => by simp at e
theorem Paired.mem_left {α β : Type} {F : α → β → Prop} : ∀ {l : List α} {m : List β}, Paired F l m → ∀ a ∈ l, ∃ b ∈ m, F a b
  | _, _, .nil, a, h => by simp at h
  | _, _, @Paired.cons _ _ _ x y l m h t, a, ha => by
    rcases List.mem_cons.mp ha with e | e
    · subst e; exact ⟨y, by simp, h⟩
    · obtain ⟨b, hb, q⟩ := Paired.mem_left t a e
      exact ⟨b, by simp [hb], q⟩
theorem isSt_of {X : Cx} {pins : List (Addr × Obj)} {σ : L2.St} {H : Hp} {s : Shared} (I : Inv X pins σ H s) {a : Addr} {st : Statement} (h : H a = some (.tup (stT st))) : SfS.IsSt s.heap (.ref a) st := by
  obtain ⟨_, its, r, o, ho, hc, n, hd⟩ := I.hok _ _ h
  cases r with
  | cons r1 r =>
    cases r with
    | cons r2 r =>
      cases r with
      | cons r3 r =>
        cases r
        obtain ⟨t1, rfl⟩ := r1
        obtain ⟨t2, rfl⟩ := r2
        obtain ⟨t3, rfl⟩ := r3
        exact ⟨a, o, t1, t2, t3, n, rfl, ho, hc, hd⟩
open Classical in
noncomputable def stOf (h : Heap) (v : Value) : Statement := if c : ∃ s, SfS.IsSt h v s then choose c else ⟨0, 0, 0⟩
theorem stOf_eq {h : Heap} {v : Value} {s : Statement} (p : SfS.IsSt h v s) : stOf h v = s := by
  have c : ∃ s, SfS.IsSt h v s := ⟨s, p⟩
  unfold stOf
  rw [dif_pos c]
  exact (Classical.choose_spec c).uniq p
theorem map_stOf {h : Heap} {ks : List (List Key × Addr × Value)} {ss : List Statement} (p : Paired (fun (x : List Key × Addr × Value) st => SfS.IsSt h (Value.ref x.2.1) st) ks ss) : (ks.map fun x : List Key × Addr × Value => Value.ref x.2.1).map (stOf h) = ss := by
  induction p with
  | nil => rfl
  | cons h t ih => rw [List.map_cons, List.map_cons, ih, stOf_eq h]
theorem cr_sortedD3 {X : Cx} (hc : X.calm = true) : CallR X (.builtin "sorted") rSortD3 := by
  intro pins s σ H xs us Q I r h
  obtain ⟨a, kvs, ss, rfl, hd, hks, h1000, q⟩ := h
  obtain ⟨u, rfl, rx⟩ := vals1 r
  cases rx
  obtain ⟨z, hs, ks, pr, o, es, ep, ho, hx, hdt, he, hn⟩ := (show ObjOk X.prog X.w H s.heap a (.dT kvs) from hd.ok I.hok)
  have l1 : es.size = ks.length := size_of_entries he
  have l2 : kvs.length = ks.length := Paired.length pr
  have l3 : kvs.length = ss.length := by
    have := congrArg List.length hks
    simpa using this
  have hsz : ss.length ≤ sizeLine := Nat.le_of_lt (small1000 h1000)
  refine Calls.call_function_entry PyProof.Rows.kind_sorted PyProof.Rows.plain_sorted PyProof.Rows.entry_sorted (PyProof.Rows.args_sorted1 _) ?_
  unfold Builtin.«sorted»
  refine wpAny_bind (m := checkCount "sorted" 1 1 _) (wpAny_pure ?_)
  refine wpAny_bind (PySem.W.kdu_collect (A := X.A.in1) (kdl_raw hs hx hdt) (I.ok.hd hc) ho (by omega) fun h' tk acc kp it => ?_)
  have ea : acc.toList = ks.map fun x => Value.ref x.2.1 := by
    have hl : acc.toList.length = ks.length := by rw [Array.length_toList, it.1]; exact l1
    apply List.ext_getElem?
    intro j
    rw [List.getElem?_map]
    cases hj : acc.toList[j]? with
    | none =>
      have h1 := List.getElem?_eq_none_iff.mp hj
      rw [List.getElem?_eq_none (by omega)]
      all_goals rfl
    | some v =>
      obtain ⟨en, hen, hv⟩ := it.2 j v (by rw [← Array.getElem?_toList]; exact hj)
      have qe := entry_at he j
      rw [hen] at qe
      cases hb : ks[j]? with
      | none =>
        rw [hb] at qe
        exact nomatch (show some en = none from qe)
      | some b =>
        rw [hb] at qe
        have e2 : en = entryOfKey (tupleKind (mixKind X.prog X.w)) b := Option.some.inj qe
        rw [hv, e2]
        all_goals rfl
  have I1 : Inv X pins σ H { s with heap := h', toks := tk } := I.kept kp
  have pst := KT_at pr hks
  have lacc : acc.toList.length = ss.length := by rw [ea, List.length_map]; omega
  -- the items are statements
  have hst : ∀ v ∈ acc.toList, ∃ (b : Addr) (st : Statement), v = .ref b ∧ H b = some (.tup (stT st)) := fun v hv => by
    rw [ea] at hv
    obtain ⟨x, hx, rfl⟩ := List.mem_map.mp hv
    obtain ⟨st, _, e⟩ := Paired.mem_left pst x hx
    exact ⟨_, st, rfl, e⟩
  have hk : ∀ v ∈ acc.toList, SfS.IsSt h' v (stOf h' v) := fun v hv => by
    obtain ⟨b, st, rfl, e⟩ := hst v hv
    have p := isSt_of I1 e
    rw [stOf_eq p]
    exact p
  have hmap : acc.toList.map (stOf h') = ss := by
    rw [ea]
    exact map_stOf (Paired.mapP pst fun x st e => isSt_of I1 e)
  refine wpAny_bind (wpAny_newList ?_ (by rw [lacc]; exact hsz))
  have hoL : (h'.push (seqObj "list" acc.toList.toArray 0)).get? h'.objs.size = some (seqObj "list" acc.toList.toArray 0) := Heap.get?_push_size _ rfl
  have kpush : ∀ b o, h'.get? b = some o → (h'.push (seqObj "list" acc.toList.toArray 0)).get? b = some o := fun b o e => Heap.get?_push_of_some _ e
  have hk2 : ∀ v ∈ acc.toList, SfS.IsSt (h'.push (seqObj "list" acc.toList.toArray 0)) v (stOf h' v) := fun v hv => (hk v hv).keeps fun b o e _ => kpush b o e
  show wpAny _ _ _ _ _ { s with heap := h'.push (seqObj "list" acc.toList.toArray 0), toks := tk }
  refine wpAny_bind (wpAny_holding (wpAny_call_entry PyProof.Rows.slot_list_sort ⟨_, hoL, rfl⟩ PyProof.Rows.entry_list_sort
    (SrtO.list_sort_ord (s := { s with heap := h'.push (seqObj "list" acc.toList.toArray 0), toks := tk }) (ltv := fun v u => Vbjbaj.isBefore (stOf h' v) (stOf h' u)) (SfS.swo_before _) hoL (by rw [lacc]; exact hsz) (fun h2 => ?_) fun out g1 g2 => ⟨_, rfl, ?_⟩) (PyProof.Rows.args_list_sort _)))
  · refine SfS.st_sortable (s := { s with heap := h'.push (seqObj "list" acc.toList.toArray 0), toks := tk }) (by omega) hk2 fun o e => ?_
    have e' : some o = some (seqObj "list" acc.toList.toArray 0) := e.symm.trans hoL
    cases e'
    intro c
    exact absurd (Value.type.inj c) (by decide)
  · obtain ⟨e', he'⟩ := PyProof.Rows.sortedHeap_at (vs := acc.toList) (out := out.toArray) hoL
    have hmem : ∀ v ∈ out, v ∈ acc.toList := fun v hv => g2.perm.mem_iff.mp hv
    have lo : out.length = ss.length := by rw [g2.perm.length_eq, lacc]
    have hv : ∀ v ∈ out, ∃ b, v = Value.ref b := fun v hv => by
      obtain ⟨b, _, e, _⟩ := hst v (hmem v hv)
      exact ⟨b, e⟩
    have stl : ∀ l : List Value, (∀ v ∈ l, v ∈ acc.toList) → StL H (l.map backV) (l.map (stOf h')) := by
      intro l
      induction l with
      | nil => exact fun _ => .nil
      | cons v l ih =>
        intro hl
        obtain ⟨b, st, rfl, e⟩ := hst v (hl v List.mem_cons_self)
        refine .cons ⟨b, rfl, ?_⟩ (ih fun v hv => hl v (List.mem_cons_of_mem _ hv))
        rw [stOf_eq (isSt_of I1 e)]
        exact e
    refine wpAny_pure ⟨_, rfl, .ref h'.objs.size, upd H h'.objs.size (.lst (out.map backV)), I1.laid (t' := tk) (fun b u e => ?_) (Nat.le_refl _)
      (show ObjOk X.prog X.w _ _ _ (.lst (out.map backV)) from ⟨by rw [List.length_map, lo]; exact hsz, out, e', vals_back hv, he'⟩), rfl, q _ (out.map (stOf h')) _ ?_ ?_ (stl out hmem) (I1.hok.fresh (Nat.le_refl _))⟩
    · have hb : b < h'.objs.size := Heap.lt_size e
      rw [PyProof.Rows.sortedHeap_old (Nat.ne_of_lt hb) (by rw [size_push']; exact Nat.lt_succ_of_lt hb)]
      exact Heap.get?_push_of_some _ e
    · rw [← hmap]
      exact g2.perm.map _
    · rw [List.pairwise_map]
      exact g1
end Sf
/-! W7: statements_seen. -/
namespace Sf
open PySem PySem.Spec PyProof.Rows L2
open Vbjbaj (Statement File Project)
theorem putK_map {κ : Type} [DecidableEq κ] (kvs : List (κ × V)) (k : κ) (v : V) : (putK kvs k v).map (·.1) = if k ∈ kvs.map (·.1) then kvs.map (·.1) else kvs.map (·.1) ++ [k] := by
  cases e : valV kvs k with
  | none =>
    rw [putK_new v e, if_neg (valV_not e), List.map_append]
    rfl
  | some u =>
    have hm := valV_in e
    have ha : (kvs.any fun kv => decide (kv.1 = k)) = true := by rw [valV_any, e]; rfl
    unfold putK
    rw [if_pos ha, if_pos hm, List.map_map]
    refine List.map_congr_left fun kv _ => ?_
    show (if kv.1 = k then (kv.1, v) else kv).1 = kv.1
    split <;> rfl
/-- more keys: each once -/
def insKey (ss : List Statement) (s : Statement) : List Statement := if s ∈ ss then ss else ss ++ [s]
theorem putK_st {kvs : List (List Key × V)} {ss : List Statement} (e : kvs.map (·.1) = ss.map stKey) (s : Statement) (v : V) : (putK kvs (stKey s) v).map (·.1) = (insKey ss s).map stKey := by
  rw [putK_map, e]
  unfold insKey
  by_cases c : s ∈ ss
  · rw [if_pos c, if_pos (List.mem_map.mpr ⟨s, c, rfl⟩)]
  · rw [if_neg c, if_neg, List.map_append]
    · rfl
    · intro h
      obtain ⟨s', h1, h2⟩ := List.mem_map.mp h
      exact c (stKey_inj h2 ▸ h1)
theorem insKey_mem {ss : List Statement} {s x : Statement} : x ∈ insKey ss s ↔ x ∈ ss ∨ x = s := by
  unfold insKey
  split
  · constructor
    · exact .inl
    · rintro (h | h)
      · exact h
      · exact h ▸ ‹_›
  · simp
theorem insKey_nodup {ss : List Statement} {s : Statement} (h : ss.Nodup) : (insKey ss s).Nodup := by
  unfold insKey
  split
  · exact h
  · exact nd_snoc h ‹_›
theorem insKey_len {ss : List Statement} {s : Statement} : (insKey ss s).length ≤ ss.length + 1 := by
  unfold insKey
  split
  · omega
  · simp
theorem stL_at {H : Hp} : ∀ {vs : List V} {l : List Statement}, StL H vs l → ∀ {i : Nat} {v : V}, vs[i]? = some v → ∃ s, l[i]? = some s ∧ StV H v s
  | _, _, .nil, i, v, h => by simp at h
  | _, _, .cons h _, 0, v, e => by
    have : _ = v := Option.some.inj e
    subst this
    exact ⟨_, rfl, h⟩
  | _, _, .cons _ t, i + 1, v, e => stL_at t (i := i) e
section
variable {P : Program} {w : World} {K : PySem.W.Frag} {mg : Str → Option Value} {base : Heap} {A : Ad}
def sp_statements_seen (A : Ad) : Sp := fun vs H Q _ => ∃ (d : Addr) (f t : Nat) (p : Project), vs = [.ref d, .int (f : Int)] ∧ f < 10 ∧ PWf t p ∧ FilesAt A.File H d p ∧ ∀ H' r us, Same H H' → H r = none → H' r = some (.lst us) → StL H' us (Vbjbaj.statementsOf p f) → Q (.ref r) H'
/-- the dict so far -/
structure StsH (H0 H : Hp) (df : Addr) (n : Nat) (M : Statement → Prop) : Prop where
  same : Same H0 H
  ff : H0 df = none
  kv : ∃ (kvs : List (List Key × V)) (ss : List Statement), H df = some (.dT kvs) ∧ kvs.map (·.1) = ss.map stKey ∧ ss.Nodup ∧ ss.length ≤ n ∧ ∀ s, s ∈ ss ↔ M s
theorem ok_statements_seen (T : Txt K mg A) (C_seen : Cal P w K mg base CX0 3 "seen" ["files", "number"] (sp_seen A)) {f : Addr} {fd : FuncData} (F : Fun K "statements_seen" "statements_seen" s_statements_seen f fd) : FnOk P w K mg base CX0 4 f fd ["files", "number"] (sp_statements_seen A) := by
  refine F.ok sc_statements_seen (fun vs H Q E h => by obtain ⟨d, n, t, p, rfl, _⟩ := h; rfl) (fun cdv A' outer s H vs Q E hr h => ?_)
  have hu := hu_of hr
  refine ⟨_, (pss_cons (ps_set (i := 2) sc_statements_seen.nd rfl (Or.inl rfl) pe_dnewT)
(pss_cons (ps_for PassesOwn.never rfl (pi_list (pe_cal C_seen (hr.mono (by decide)) pass0 (pa_cons (pv 0) (pa_cons (pv 1) pa_nil)))) (pg_name (i := 3) sc_statements_seen.nd rfl (Or.inl rfl)) (pss_one (ps_for PassesOwn.never rfl (pi_tup (pe_fld (pe_dget hu (pv 0) (pv 3) (fun _ _ => rfl)) rfl)) (pg_name (i := 4) sc_statements_seen.nd rfl (Or.inl rfl)) (pss_one (ps_dput hu (pv 2) (pv 4) pe_bl rfl)))))
(pss_one (ps_ret (pe_callB (cr_sortedD3 rfl) (by rfl) T.b_sorted (by decide +kernel) (pa_cons (pv 2) pa_nil)))))), ?_⟩
  obtain ⟨d, f, t, p, rfl, hf, pw, fa, k⟩ := h
  intro df hdf
  have s0 : Same H (upd H df (.dT [])) := Same.new hdf
  refine ⟨_, rfl, _, rfl, d, f, t, p, rfl, hf, pw, fa.same s0, fun H1 r s1 hr0 hr1 => ?_⟩
  have hne : r ≠ df := fun z => by rw [z, upd_same] at hr0; cases hr0
  refine ⟨r, rfl, ⟨_, SqL.of hr1⟩, for_list (K := K) (a := r) (xs := nV (Vbjbaj.visible p f))
    (fun i σ H' => ∃ x3 x4 : Option V, σ = [some (.ref d), some (.int (f : Int)), some (.ref df), x3, x4] ∧ StsH H H' df (12 * i) (fun s => ∃ g ∈ (Vbjbaj.visible p f).take i, s ∈ stmtsAt p g) ∧ H' r = some (.lst (nV (Vbjbaj.visible p f))))
    ⟨none, none, rfl, ⟨s0.trans s1, hdf, [], [], s1 _ _ upd_same, rfl, .nil, Nat.le_refl _, fun s => by simp⟩, hr1⟩ (fun i σ H' _ ⟨_, _, _, _, q⟩ => SqL.of q) ?_ ?_⟩
  · rintro i y σ H2 hy ⟨x3, x4, rfl, sh, hr2⟩
    obtain ⟨g, hg, rfl⟩ := nV_at hy
    have ev := take_succ' hg
    have gv : g ∈ Vbjbaj.visible p f := List.mem_of_getElem? hg
    obtain ⟨x, hx⟩ := doesExist_iff.mp (List.mem_filter.mp gv).2
    obtain ⟨a, ga, dx, it, st, tt, ss, h1, h2, h3, h4, h5⟩ := (fa.same sh.same).get hx
    have l12 := isFile_statements (pw.ok g x hx)
    refine ⟨_, rfl, _, rfl, d, _, rfl, ga, a, A.File, dx, _, _, rfl, h1, T.clF, T.nF_statements, fileF_statements it st tt, st, rfl, ⟨_, SqT.of h3⟩, ?_⟩
    refine for_tup (K := K) (a := st) (xs := ss)
      (fun j σ H' => ∃ x4 : Option V, σ = [some (.ref d), some (.int (f : Int)), some (.ref df), some (.int (g : Int)), x4] ∧ StsH H H' df (12 * i + j) (fun s => (∃ g ∈ (Vbjbaj.visible p f).take i, s ∈ stmtsAt p g) ∨ s ∈ x.statements.take j) ∧ H' r = some (.lst (nV (Vbjbaj.visible p f))) ∧ H' st = some (.tup ss) ∧ StL H' ss x.statements)
      ⟨x4, rfl, ⟨sh.same, hdf, ?_⟩, hr2, h3, h4⟩ (fun j σ H' _ ⟨_, _, _, _, q, _⟩ => SqT.of q) ?_ ?_
    · obtain ⟨kvs, ks, q1, q2, q3, q4, q5⟩ := sh.kv
      exact ⟨kvs, ks, q1, q2, q3, q4, fun s => by rw [q5]; simp⟩
    · rintro j v σ H3 hv ⟨x4', rfl, sh3, hr3, hst3, hl3⟩
      obtain ⟨s, hs, b, rfl, hb⟩ := stL_at hl3 hv
      have ej := take_succ' hs
      obtain ⟨kvs, ks, q1, q2, q3, q4, q5⟩ := sh3.kv
      have jlt : j < x.statements.length := (List.getElem?_eq_some_iff.mp hs).1
      have ilt : i < (Vbjbaj.visible p f).length := (List.getElem?_eq_some_iff.mp hg).1
      have vs10 := visible_size (p := p) (f := f)
      have lk : kvs.length = ks.length := map_len q2
      refine ⟨_, rfl, _, rfl, df, _, rfl, DPut.t (k := stKey s) q1 hb (small1000 (by omega)), ?_⟩
      have nst : st ≠ df := fun z => by rw [z, q1] at hst3; cases hst3
      have keepT : ∀ c us, H3 c = some (.tup us) → (upd H3 df (.dT (putK kvs (stKey s) (.bl true)))) c = some (.tup us) := fun c us hc => by
        rw [upd_ne fun z => by rw [z, q1] at hc; cases hc]
        exact hc
      refine ⟨_, rfl, ⟨Same.put sh3.same hdf, hdf, _, insKey ks s, upd_same, putK_st q2 s _, insKey_nodup q3, Nat.le_trans insKey_len (by omega), fun x' => ?_⟩, by rw [upd_ne hne]; exact hr3, keepT _ _ hst3, Paired.mapP hl3 fun _ _ ⟨c, e1, e2⟩ => ⟨c, e1, keepT _ _ e2⟩⟩
      rw [insKey_mem, q5, ej, List.mem_append, List.mem_singleton]
      grind
    · rintro σ H3 ⟨x4', rfl, sh3, hr3, hst3, hl3⟩
      have lss : ss.length = x.statements.length := Paired.len h4
      refine ⟨_, _, rfl, ⟨sh3.same, hdf, ?_⟩, hr3⟩
      obtain ⟨kvs, ks, q1, q2, q3, q4, q5⟩ := sh3.kv
      refine ⟨kvs, ks, q1, q2, q3, by omega, fun s => ?_⟩
      rw [q5, ev, lss, List.take_length]
      constructor
      · rintro (⟨g', m1, m2⟩ | m)
        · exact ⟨g', List.mem_append_left _ m1, m2⟩
        · exact ⟨g, List.mem_append_right _ (by simp), by rw [stmtsAt_some hx]; exact m⟩
      · rintro ⟨g', m1, m2⟩
        rcases List.mem_append.mp m1 with m | m
        · exact .inl ⟨g', m, m2⟩
        · rw [List.mem_singleton.mp m, stmtsAt_some hx] at m2
          exact .inr m2
  · rintro σ H2 ⟨x3, x4, rfl, sh, hr2⟩
    rw [nV_len, List.take_length] at sh
    obtain ⟨kvs, ks, q1, q2, q3, q4, q5⟩ := sh.kv
    have vs10 := visible_size (p := p) (f := f)
    refine ⟨_, rfl, df, kvs, ks, rfl, .inl q1, q2, by omega, fun us ys q hperm hsort hst hq => ?_⟩
    have : ys = Vbjbaj.statementsOf p f := strict_ext _ _ (strict_of hsort (hperm.symm.nodup q3)) (statementsOf_strict p f) fun s => by
      rw [hperm.mem_iff, q5, mem_statementsOf]
    subst this
    exact k _ q us (Same.neu sh.same hq) (sh.same.free hq) upd_same (hst.same (Same.new hq))
end
end Sf
/-! W8a: heaps that differ at one place; lists of new tuples; dicts as sets of numbers. -/
namespace Sf
open PySem PySem.Spec PyProof.Rows L2
open Vbjbaj (Statement File Project)
/-- all but d is as it was -/
def SameX (d : Addr) (H H' : Hp) : Prop := ∀ b o, b ≠ d → H b = some o → H' b = some o
theorem SameX.refl (d : Addr) (H : Hp) : SameX d H H := fun _ _ _ h => h
theorem SameX.trans {d : Addr} {H H1 H2 : Hp} (a : SameX d H H1) (b : SameX d H1 H2) : SameX d H H2 := fun c o n h => b c o n (a c o n h)
theorem SameX.more {d : Addr} {H H1 H2 : Hp} (a : SameX d H H1) (b : Same H1 H2) : SameX d H H2 := fun c o n h => b c o (a c o n h)
theorem SameX.put {d : Addr} {H H1 : Hp} {o : HO} (a : SameX d H H1) : SameX d H (upd H1 d o) := fun c u n h => by rw [upd_ne n]; exact a c u n h
theorem SameX.same {d : Addr} {H0 H H' : Hp} (s : Same H0 H) (hd : H0 d = none) (x : SameX d H H') : Same H0 H' := fun b o h => x b o (ne_of_none h hd) (s b o h)
theorem SameX.tup {d : Addr} {H H' : Hp} (x : SameX d H H') {a : Addr} {xs : List V} (h : H a = some (.tup xs)) {o : HO} (hd : H d = some o) (no : ∀ ys, o ≠ .tup ys) : H' a = some (.tup xs) :=
  x a _ (fun z => by rw [z, hd] at h; exact no xs (Option.some.inj h)) h
/-- v is a tuple of a's values -/
def TupV {α : Type} (F : α → List V) (H : Hp) (v : V) (a : α) : Prop := ∃ b, v = .ref b ∧ H b = some (.tup (F a))
theorem TupV.same {α : Type} {F : α → List V} {H H' : Hp} {v : V} {a : α} (e : Same H H') (h : TupV F H v a) : TupV F H' v a := by
  obtain ⟨b, h1, h2⟩ := h
  exact ⟨b, h1, e _ _ h2⟩
theorem TupV.sx {α : Type} {F : α → List V} {H H' : Hp} {v : V} {a : α} {d : Addr} {o : HO} (x : SameX d H H') (hd : H d = some o) (no : ∀ ys, o ≠ .tup ys) (h : TupV F H v a) : TupV F H' v a := by
  obtain ⟨b, h1, h2⟩ := h
  exact ⟨b, h1, x.tup h2 hd no⟩
theorem TupVs.refs {α : Type} {F : α → List V} {H : Hp} : ∀ {vs : List V} {l : List α}, Paired (TupV F H) vs l → ∃ ps : List Addr, vs = ps.map V.ref ∧ Paired (fun p a => H p = some (.tup (F a))) ps l
  | _, _, .nil => ⟨[], rfl, .nil⟩
  | _, _, .cons ⟨b, h1, h2⟩ t => by
    obtain ⟨ps, e, r⟩ := TupVs.refs t
    exact ⟨b :: ps, by rw [h1, e]; rfl, .cons h2 r⟩
theorem tupV_at {α : Type} {F : α → List V} {H : Hp} : ∀ {vs : List V} {l : List α}, Paired (TupV F H) vs l → ∀ {i : Nat} {v : V}, vs[i]? = some v → ∃ a, l[i]? = some a ∧ TupV F H v a
  | _, _, .nil, i, v, h => by simp at h
  | _, _, .cons h _, 0, v, e => by
    have : _ = v := Option.some.inj e
    subst this
    exact ⟨_, rfl, h⟩
  | _, _, .cons _ t, i + 1, v, e => tupV_at t (i := i) e
theorem lt_size {n : Nat} (h : n ≤ 100000) : n < sizeLine := by rw [sizeLine_eq]; omega
/-- a new list at D of tuples, one for each of ys -/
def LcT {α : Type} (F : α → List V) (H1 : Hp) (D : Addr) (ys : List α) (H : Hp) : Prop := Same H1 H ∧ ∃ acc, H D = some (.lst acc) ∧ Paired (TupV F H) acc ys
section
variable {α : Type} {F : α → List V} {H1 H H4 : Hp} {D : Addr} {ys : List α} {y : V} {a : α}
theorem LcT.start (hD : H1 D = none) : LcT F H1 D [] (upd H1 D (.lst [])) := ⟨Same.new hD, [], upd_same, .nil⟩
theorem LcT.more (p : LcT F H1 D ys H) (s : Same H H4) : LcT F H1 D ys H4 := by
  obtain ⟨h1, acc, h2, h3⟩ := p
  exact ⟨h1.trans s, acc, s _ _ h2, Paired.mapP h3 fun _ _ q => q.same s⟩
theorem LcT.push (hD : H1 D = none) (p : LcT F H1 D ys H) (s : Same H H4) (hy : TupV F H4 y a) (hl : ys.length ≤ 100000) : ∃ acc, H4 D = some (.lst acc) ∧ acc.length < sizeLine ∧ LcT F H1 D (ys ++ [a]) (upd H4 D (.lst (acc ++ [y]))) := by
  obtain ⟨h1, acc, h2, h3⟩ := p.more s
  have sx : SameX D H4 (upd H4 D (.lst (acc ++ [y]))) := (SameX.refl D H4).put
  refine ⟨acc, h2, lt_size (by rw [Paired.len h3]; omega), Same.put h1 hD, _, upd_same, Paired.snoc (hy.sx sx h2 fun _ z => by cases z) (Paired.mapP h3 fun _ _ q => q.sx sx h2 fun _ z => by cases z)⟩
theorem Paired.app {α β : Type} {F : α → β → Prop} : ∀ {l l' : List α} {m m' : List β}, Paired F l m → Paired F l' m' → Paired F (l ++ l') (m ++ m')
  | _, _, _, _, .nil, h => h
  | _, _, _, _, .cons a t, h => .cons a (Paired.app t h)
/-- the list grows by another one -/
theorem LcT.ext {zs : List V} {zss : List α} (hD : H1 D = none) (p : LcT F H1 D ys H) (hz : Paired (TupV F H) zs zss) : ∃ acc, H D = some (.lst acc) ∧ acc.length = ys.length ∧ LcT F H1 D (ys ++ zss) (upd H D (.lst (acc ++ zs))) := by
  obtain ⟨h1, acc, h2, h3⟩ := p
  have sx : SameX D H (upd H D (.lst (acc ++ zs))) := (SameX.refl D H).put
  exact ⟨acc, h2, Paired.len h3, Same.put h1 hD, _, upd_same, Paired.mapP (Paired.app h3 hz) fun _ _ q => q.sx sx h2 fun _ z => by cases z⟩
end

/-! ### a dict as a set of numbers -/
def insN (ts : List Nat) (n : Nat) : List Nat := if n ∈ ts then ts else ts ++ [n]
theorem insN_mem {ts : List Nat} {n x : Nat} : x ∈ insN ts n ↔ x ∈ ts ∨ x = n := by
  unfold insN
  split
  · constructor
    · exact .inl
    · rintro (h | h)
      · exact h
      · exact h ▸ ‹_›
  · simp
theorem insN_nodup {ts : List Nat} {n : Nat} (h : ts.Nodup) : (insN ts n).Nodup := by
  unfold insN
  split
  · exact h
  · exact nd_snoc h ‹_›
theorem insN_len {ts : List Nat} {n : Nat} : ts.length ≤ (insN ts n).length ∧ (insN ts n).length ≤ ts.length + 1 := by
  unfold insN
  split
  · omega
  · simp
theorem insN_more {ts : List Nat} {n : Nat} (h : n ∉ ts) : ts.length < (insN ts n).length := by
  unfold insN
  rw [if_neg h]
  simp
theorem fold_insN : ∀ (l ts : List Nat), (∀ x, x ∈ l.foldl insN ts ↔ x ∈ ts ∨ x ∈ l) ∧ (ts.Nodup → (l.foldl insN ts).Nodup) ∧ ts.length ≤ (l.foldl insN ts).length
  | [], ts => ⟨fun x => by simp, id, Nat.le_refl _⟩
  | n :: l, ts => by
    obtain ⟨h1, h2, h3⟩ := fold_insN l (insN ts n)
    refine ⟨fun x => ?_, fun h => h2 (insN_nodup h), Nat.le_trans insN_len.1 h3⟩
    rw [List.foldl_cons, h1, insN_mem, List.mem_cons]
    grind
/-- its keys are ts -/
def DKs (kvs : List (Key × V)) (ts : List Nat) : Prop := kvs.map (·.1) = ts.map fun n : Nat => (Sum.inl (n : Int) : Key)
theorem DKs.put {kvs : List (Key × V)} {ts : List Nat} (h : DKs kvs ts) (n : Nat) (v : V) : DKs (putK kvs (.inl (n : Int)) v) (insN ts n) := by
  unfold DKs at h ⊢
  rw [putK_map, h]
  unfold insN
  by_cases c : n ∈ ts
  · rw [if_pos c, if_pos (inl_mem.mpr c)]
  · rw [if_neg c, if_neg fun z => c (inl_mem.mp z), List.map_append]
    rfl
theorem DKs.has {kvs : List (Key × V)} {ts : List Nat} (h : DKs kvs ts) (n : Nat) : (valV kvs (.inl (n : Int))).isSome = decide (n ∈ ts) := by
  unfold DKs at h
  by_cases c : n ∈ ts
  · obtain ⟨v, e⟩ := valV_some_of (kvs := kvs) (k := .inl (n : Int)) (by rw [h]; exact inl_mem.mpr c)
    rw [e, decide_eq_true c]; rfl
  · rw [valV_none_of (by rw [h]; exact fun z => c (inl_mem.mp z)), decide_eq_false c]; rfl
theorem DKs.len {kvs : List (Key × V)} {ts : List Nat} (h : DKs kvs ts) : kvs.length = ts.length := map_len h
theorem DKs.merge {f : Nat → V} : ∀ (l ts : List Nat) (kvs : List (Key × V)), DKs kvs ts → DKs (mergeK kvs (l.map fun n : Nat => ((Sum.inl (n : Int) : Key), f n))) (l.foldl insN ts)
  | [], _, _, h => h
  | n :: l, ts, kvs, h => DKs.merge l (insN ts n) _ (h.put n (f n))
def DN (H : Hp) (d : Addr) (ts : List Nat) : Prop := ∃ kvs, H d = some (.dK kvs) ∧ DKs kvs ts
theorem DN.has {H : Hp} {d : Addr} {ts : List Nat} (h : DN H d ts) (n : Nat) : ∃ o, DGet H d (.int (n : Int)) o ∧ o.isSome = decide (n ∈ ts) := by
  obtain ⟨kvs, h1, h2⟩ := h
  exact ⟨_, DGet.k (k := .inl (n : Int)) h1, h2.has n⟩
theorem DN.same {H H' : Hp} {d : Addr} {ts : List Nat} (e : Same H H') (h : DN H d ts) : DN H' d ts := by
  obtain ⟨kvs, h1, h2⟩ := h
  exact ⟨kvs, e _ _ h1, h2⟩
theorem DN.put {H : Hp} {d : Addr} {ts : List Nat} (h : DN H d ts) (hl : ts.length ≤ 1000) (n : Nat) (v : V) : ∃ o, DPut H d (.int (n : Int)) v (upd H d o) ∧ DN (upd H d o) d (insN ts n) := by
  obtain ⟨kvs, h1, h2⟩ := h
  exact ⟨_, DPut.k (k := .inl (n : Int)) h1 (small1000 (by rw [h2.len]; exact hl)), _, upd_same, h2.put n v⟩
theorem DN.notTup {H : Hp} {d : Addr} {ts : List Nat} (h : DN H d ts) {a : Addr} {xs : List V} (e : H a = some (.tup xs)) : a ≠ d := by
  obtain ⟨kvs, h1, _⟩ := h
  rintro rfl
  rw [h1] at e
  cases e
theorem DN.notLst {H : Hp} {d : Addr} {ts : List Nat} (h : DN H d ts) {a : Addr} {xs : List V} (e : H a = some (.lst xs)) : a ≠ d := by
  obtain ⟨kvs, h1, _⟩ := h
  rintro rfl
  rw [h1] at e
  cases e
theorem StL.sx {H H' : Hp} {d : Addr} {ts : List Nat} {us : List V} {l : List Statement} (x : SameX d H H') (h : DN H d ts) (r : StL H us l) : StL H' us l :=
  Paired.mapP r fun _ _ ⟨a, e, q⟩ => ⟨a, e, x _ _ (h.notTup q) q⟩
end Sf
/-! W8: joined. -/
namespace Sf
open PySem PySem.Spec PyProof.Rows L2
open Vbjbaj (Statement File Project)
/-- the scope of the comprehension that holds another one -/
abbrev scope_in_joined : Scope := { kind := .function, names := [(PySem.Str.ofString ".0", .local), (PySem.Str.ofString "one", .local), (PySem.Str.ofString "any", .globalImplicit), (PySem.Str.ofString "tokens_of", .globalImplicit), (PySem.Str.ofString "tokens", .cell)], isGenerator := false, isCoroutine := false, more := [] }
theorem fold_more : ∀ (l ts : List Nat) (b : Nat), b ∈ l → b ∉ ts → ts.length < (l.foldl insN ts).length
  | [], _, _, h, _ => by simp at h
  | n :: l, ts, b, h, hb => by
    rw [List.foldl_cons]
    by_cases e : b = n
    · have := insN_more (e ▸ hb : n ∉ ts)
      have := (fold_insN l (insN ts n)).2.2
      omega
    · have h' : b ∈ l := (List.mem_cons.mp h).resolve_left e
      have hb' : b ∉ insN ts n := fun z => (insN_mem.mp z).elim hb e
      have := fold_more l (insN ts n) b h' hb'
      have := (insN_len (ts := ts) (n := n)).1
      omega
section
variable {P : Program} {w : World} {K : PySem.W.Frag} {mg : Str → Option Value} {base : Heap} {A : Ad}
def sp_joined (A : Ad) : Sp := fun vs H Q _ => ∃ (d : Addr) (f t : Nat) (p : Project) (x : File), vs = [.ref d, .int (f : Int)] ∧ Vbjbaj.fileAt p f = some x ∧ PWf t p ∧ FilesAt A.File H d p ∧
  ∀ H' r r1 r2 us, Same H H' → H r = none → H' r = some (.tup [.ref r1, .ref r2]) → H' r1 = some (.lst (nV (Vbjbaj.joined (Vbjbaj.statementsOf p f) x.text))) → H' r2 = some (.lst us) → StL H' us (Vbjbaj.relevantOf p f) → Q (.ref r) H'
/-- a list of truth values made by a comprehension over numbers: whether each is in the dict -/
theorem boolsOf (own : List Nat) (ts : List Nat) : (own.filter fun _ => true).map (fun a => V.bl (decide (a ∈ ts))) = (own.map fun a => decide (a ∈ ts)).map V.bl := by
  rw [filter_true, List.map_map]
  rfl
/-- the state of the while -/
def JnS (Hb : Hp) (d : Addr) (f : Nat) (dt r : Addr) (ts : List Nat) (b : Bool) (σ : L2.St) (H : Hp) : Prop :=
  ∃ x5 x6 x7 x8 : Option V, σ = [some (.ref d), some (.int (f : Int)), some (.ref dt), some (.ref r), some (.bl b), x5, x6, x7, x8] ∧ SameX dt Hb H ∧ DN H dt ts
/-- the tokens so far: all are joined, the text's are there -/
structure JnI (l : List Statement) (text ts : List Nat) : Prop where
  nd : ts.Nodup
  tx : ∀ a ∈ text, a ∈ ts
  jn : ∀ a ∈ ts, Jn l text a
theorem JnI.len {l : List Statement} {text ts : List Nat} (h : JnI l text ts) : ts.length ≤ 20 := lt_of_nodup 20 ts h.nd fun a ha => by
  cases h.jn a ha with
  | base _ q => exact q
  | step _ _ _ _ q => exact q
theorem JnI.add {l : List Statement} {text ts : List Nat} (h : JnI l text ts) {s : Statement} (hs : s ∈ l) (lt : ∀ a ∈ Vbjbaj.tokensOf s, a < 20) (ex : ∃ a ∈ Vbjbaj.tokensOf s, a ∈ ts) : ∀ own : List Nat, (∀ a ∈ own, a ∈ Vbjbaj.tokensOf s) → JnI l text (own.foldl insN ts) := fun own ho => by
  obtain ⟨h1, h2, h3⟩ := fold_insN own ts
  obtain ⟨a, ha, hat⟩ := ex
  refine ⟨h2 h.nd, fun b hb => (h1 b).mpr (.inl (h.tx b hb)), fun b hb => ?_⟩
  rcases (h1 b).mp hb with q | q
  · exact h.jn b q
  · exact .step hs ha (h.jn a hat) (ho b q) (lt b (ho b q))
/-- [token in tokens for token in own] -/
theorem lc_has {K : PySem.W.Frag} {o dt D1 : Addr} {own ts : List Nat} {σ : L2.St} {H4 : Hp} {Qd : Hp → Prop} (h2 : σ[2]? = some (some (.ref dt))) (h7 : 7 < σ.length) (ho : H4 o = some (.lst (nV own))) (dn : DN H4 dt ts) (hl : own.length ≤ 900) (hD : H4 D1 = none)
    (hd : ∀ H5, Same H4 H5 → H5 D1 = some (.lst ((own.map fun a => decide (a ∈ ts)).map V.bl)) → Qd H5) :
    ∃ W : Nat → Nat → Hp → Prop, (∃ m, W 0 m (upd H4 D1 (.lst []))) ∧ ∀ i m H, W i m H →
      ((Itl K o).stop i H ∧ Qd H) ∨ ((Itl K o).go i H ∧ ∃ Nx : Hp → Prop, (∀ H', Nx H' → ∃ m', m' < m ∧ W (i + 1) m' H') ∧ ∀ x H', (Itl K o).yld i H x H' → (gName 7) x (wipe σ [7]) H' fun σ2 H2 => wipe σ2 [7] = wipe σ [7] ∧ tYes σ2 H2 fun b H3 =>
        if b = true then (tDIn (tVar 7) (tVar 2)) σ2 H3 fun y H4 => ∃ acc, H4 D1 = some (.lst acc) ∧ acc.length < sizeLine ∧ Nx (upd H4 D1 (.lst (acc ++ [y]))) else Nx H3) := by
  refine lc_list (K := K) (a := o) (xs := nV own) (LcP H4 D1 (Fil own (fun _ => true) fun a => V.bl (decide (a ∈ ts)))) (LcP.start hD rfl) (fun i H' _ p => SqL.of (p.1 _ _ ho)) (fun i y H' hy pv => ?_) (fun H' pv => ?_)
  · obtain ⟨m, hm, rfl⟩ := nV_at hy
    obtain ⟨oo, g, hoo⟩ := (dn.same pv.1).has m
    have e7 : ((wipe σ [7]).set 7 (some (V.int (m : Int))))[7]? = some (some (V.int (m : Int))) := by
      rw [List.getElem?_set_self]
      simp [wipe, h7]
    have e2 : ((wipe σ [7]).set 7 (some (V.int (m : Int))))[2]? = some (some (.ref dt)) := by
      rw [List.getElem?_set_ne (by decide)]
      unfold wipe
      rw [List.getElem?_set_ne (by decide)]
      exact h2
    have := pv.push hD (Same.refl _) (y := V.bl (decide (m ∈ ts))) (Fil.yes hm rfl) (Fil.lt (by omega))
    rw [← hoo] at this
    refine ⟨?_, _, e7, _, e2, dt, oo, rfl, g, this⟩
    unfold wipe
    simp [wipe, List.set_set]
  · refine hd H' pv.1 ?_
    have := pv.2
    rw [nV_len, Fil.all, boolsOf] at this
    exact this
theorem tokensOf_len (s : Statement) : (Vbjbaj.tokensOf s).length ≤ 2 := by
  unfold Vbjbaj.tokensOf
  split <;> simp
theorem filter_snoc_pos {α : Type} {p : α → Bool} {l : List α} {a : α} (h : p a = true) : (l ++ [a]).filter p = l.filter p ++ [a] := by
  rw [List.filter_append, List.filter_cons_of_pos h, List.filter_nil]
theorem filter_snoc_neg {α : Type} {p : α → Bool} {l : List α} {a : α} (h : ¬ p a = true) : (l ++ [a]).filter p = l.filter p := by
  rw [List.filter_append, List.filter_cons_of_neg h, List.filter_nil, List.append_nil]
theorem any_has (own ts : List Nat) : (own.map fun a => decide (a ∈ ts)).any id = true ↔ ∃ a ∈ own, a ∈ ts := by simp
theorem all_has (own ts : List Nat) : (own.map fun a => decide (a ∈ ts)).all id = true ↔ ∀ a ∈ own, a ∈ ts := by simp
theorem ok_joined (T : Txt K mg A) (C_tokens_of : Cal P w K mg base CX0 1 "tokens_of" ["statement"] sp_tokens_of) (C_statements_seen : Cal P w K mg base CX0 4 "statements_seen" ["files", "number"] (sp_statements_seen A)) {f : Addr} {fd : FuncData} (F : Fun K "joined" "joined" s_joined f fd) : FnOk P w K mg base CX0 5 f fd ["files", "number"] (sp_joined A) := by
  refine F.ok sc_joined (fun vs H Q E h => by obtain ⟨d, n, t, p, x, rfl, _⟩ := h; rfl) (fun cdv A' outer s H vs Q E hr h => ?_)
  have hu := hu_of hr
  refine ⟨_, (pss_cons (ps_asg (pe_tup (pa_cons (pe_callTy (call_dictP rfl) (by rfl) T.b_dict (by decide +kernel) (pa_cons (pe_lc (own := [("token", 7)]) (g := (gName 7)) (tt := tYes) (te := (tTup (tCons (tVar 7) (tCons (tC (.bl true)) tNil)))) (by rfl) sc_joined.nd (pi_tup (pe_fld (pe_dget hu (pv 0) (pv 1) (fun _ _ => rfl)) rfl)) (blkOk_by (own := [("token", 7)]) (N := N_joined) (sc := defScope s_joined) (by decide +kernel)) (fun _ _ _ _ _ => (pg_name (i := 7) sc_joined.nd rfl (Or.inl rfl))) (fun _ _ _ _ _ => pts_nil) (fun _ _ _ _ _ => (pe_tup (pa_cons (pv 7) (pa_cons pe_bl pa_nil))))) pa_nil)) (pa_cons (pe_cal C_statements_seen (hr.mono (by decide)) pass0 (pa_cons (pv 0) (pa_cons (pv 1) pa_nil))) pa_nil))) (pg_tup rfl (pgs_cons (pg_name (i := 2) sc_joined.nd rfl (Or.inr rfl)) (pgs_cons (pg_name (i := 3) sc_joined.nd rfl (Or.inl rfl)) pgs_nil))))
(pss_cons (ps_set (i := 4) sc_joined.nd rfl (Or.inl rfl) pe_bl)
(pss_cons (ps_while PassesOwn.never (pt_val (pv 4)) (pss_cons (ps_set (i := 4) sc_joined.nd rfl (Or.inl rfl) pe_bl)
(pss_one (ps_for PassesOwn.never rfl (pi_list (pv 3)) (pg_name (i := 5) sc_joined.nd rfl (Or.inl rfl)) (pss_cons (ps_set (i := 6) sc_joined.nd rfl (Or.inl rfl) (pe_cal C_tokens_of (hr.mono (by decide)) pass0 (pa_cons (pv 5) pa_nil)))
(pss_one (ps_if (PW.pt (pw_and (pt_val (pe_callB (cr_any rfl) (by rfl) T.b_any (by decide +kernel) (pa_cons (pe_lc (own := [("token", 7)]) (g := (gName 7)) (tt := tYes) (te := (tDIn (tVar 7) (tVar 2))) (by rfl) sc_joined.nd (pi_list (pv 6)) (blkOk_by (own := [("token", 7)]) (N := N_joined) (sc := defScope s_joined) (by decide +kernel)) (fun _ _ _ _ _ => (pg_name (i := 7) sc_joined.nd rfl (Or.inl rfl))) (fun _ _ _ _ _ => pts_nil) (fun _ _ _ _ _ => (pe_cmp (pc_din hu (pv 7) (pv 2)) (by rfl)))) pa_nil))) (pw_and1 (pt_not (pt_val (pe_callB (cr_all rfl) (by rfl) T.b_all (by decide +kernel) (pa_cons (pe_lc (own := [("token", 7)]) (g := (gName 7)) (tt := tYes) (te := (tDIn (tVar 7) (tVar 2))) (by rfl) sc_joined.nd (pi_list (pv 6)) (blkOk_by (own := [("token", 7)]) (N := N_joined) (sc := defScope s_joined) (by decide +kernel)) (fun _ _ _ _ _ => (pg_name (i := 7) sc_joined.nd rfl (Or.inl rfl))) (fun _ _ _ _ _ => pts_nil) (fun _ _ _ _ _ => (pe_cmp (pc_din hu (pv 7) (pv 2)) (by rfl)))) pa_nil))))))) (pss_cons (ps_for PassesOwn.never rfl (pi_list (pv 6)) (pg_name (i := 7) sc_joined.nd rfl (Or.inl rfl)) (pss_one (ps_dput hu (pv 2) (pv 7) pe_bl rfl)))
(pss_one (ps_set (i := 4) sc_joined.nd rfl (Or.inl rfl) pe_bl))) pss_nil)))))))
(pss_one (ps_ret (pe_tup (pa_cons (pe_callB (call_sortedDI rfl) (by rfl) T.b_sorted (by decide +kernel) (pa_cons (pv 2) pa_nil)) (pa_cons (pe_lc (own := [("one", 8)]) (g := (gName 8)) (tt := (tB (tCB (rAny K) (tCons (tLc (iList K (tCall sp_tokens_of [] E0 (tCons (tVar 8) tNil))) (gName 7) tYes (tDIn (tVar 7) (tVar 2)) [7]) tNil)))) (te := (tVar 8)) (by rfl) sc_joined.nd (pi_list (pv 3)) (blkOk_by (own := [("one", 8)]) (N := N_joined) (sc := defScope s_joined) (by decide +kernel)) (fun _ _ _ _ _ => (pg_name (i := 8) sc_joined.nd rfl (Or.inl rfl))) (fun _ _ _ _ _ => pts_one (pt_val (pe_callB (cr_any rfl) (by rfl) T.b_any (by decide +kernel) (pa_cons (pe_lc (own := [("token", 7)]) (g := (gName 7)) (tt := tYes) (te := (tDIn (tVar 7) (tVar 2))) (by rfl) sc_joined.nd (pi_list (pe_cal C_tokens_of (hr.mono (by decide)) pass0 (pa_cons (pv 8) pa_nil))) (blkOk_by (own := [("token", 7)]) (N := N_joined) (sc := scope_in_joined) (by decide +kernel)) (fun _ _ _ _ _ => (pg_name (i := 7) sc_joined.nd rfl (Or.inl rfl))) (fun _ _ _ _ _ => pts_nil) (fun _ _ _ _ _ => (pe_cmp (pc_din hu (pv 7) (pv 2)) (by rfl)))) pa_nil)))) (fun _ _ _ _ _ => (pv 8))) pa_nil)))))))), ?_⟩
  obtain ⟨d, f, t, p, x, rfl, hx, pw, fa, k⟩ := h
  have hf : f < 10 := pw.lt (doesExist_iff.mpr ⟨x, hx⟩)
  obtain ⟨a, ga, dx, it, st, tt, ss, h1, h2, h3, h4, h5⟩ := fa.get hx
  obtain ⟨tx60, txt⟩ := isFile_text (pw.ok f x hx)
  -- dict([(token, True) for token in files[number].text])
  refine ⟨_, rfl, _, rfl, d, _, rfl, ga, a, A.File, dx, _, _, rfl, h1, T.clF, T.nF_text, fileF_text it st tt, tt, rfl, ⟨_, SqT.of h5⟩, fun D hD => ?_⟩
  refine lc_tup (K := K) (a := tt) (xs := nV x.text) (fun i H' => LcT (fun n : Nat => [V.int (n : Int), V.bl true]) H D (x.text.take i) H') (LcT.start hD) (fun i H' _ p => SqT.of (p.1 _ _ h5)) (fun i y H' hy pv => ?_) (fun H' pv => ?_)
  · obtain ⟨m, hm, rfl⟩ := nV_at hy
    refine ⟨rfl, _, rfl, by show 2 ≤ sizeLine; decide, fun q hq => ?_⟩
    have := pv.push hD (Same.new hq) (y := .ref q) (a := m) ⟨q, rfl, upd_same⟩ (by rw [List.length_take]; omega)
    rw [take_succ' hm]
    exact this
  obtain ⟨sD, acc, hacc, racc⟩ := pv
  rw [nV_len, List.take_length] at racc
  obtain ⟨ps, rfl, rps⟩ := TupVs.refs racc
  refine ⟨D, ps, x.text.map fun n : Nat => ((Sum.inl (n : Int) : Key), V.bl true), rfl, SqL.of hacc, ?_, fun dt hdt => ?_⟩
  · have : ∀ {ps : List Addr} {l : List Nat}, Paired (fun p n => H' p = some (.tup [V.int ((n : Nat) : Int), V.bl true])) ps l → Paired (fun p (kv : Key × V) => SqT K H' p [kV kv.1, kv.2]) ps (l.map fun n : Nat => ((Sum.inl (n : Int) : Key), V.bl true)) := by
      intro ps l r
      induction r with
      | nil => exact .nil
      | cons h t ih => exact .cons (SqT.of h) ih
    exact this rps
  have s1 : Same H (upd H' dt (.dK (mergeK [] (x.text.map fun n : Nat => ((Sum.inl (n : Int) : Key), V.bl true))))) := Same.neu sD hdt
  have hdtH : H dt = none := sD.free hdt
  have dn0 : DN (upd H' dt (.dK (mergeK [] (x.text.map fun n : Nat => ((Sum.inl (n : Int) : Key), V.bl true))))) dt (x.text.foldl insN []) := ⟨_, upd_same, DKs.merge x.text [] [] rfl⟩
  -- statements_seen(files, number)
  refine ⟨_, rfl, _, rfl, d, f, t, p, rfl, hf, pw, fa.same s1, fun H2 r us s2 hr0 hr1 hus => ?_⟩
  refine ⟨by show 2 ≤ sizeLine; decide, fun q hq => ⟨q, _, rfl, SqT.of upd_same, rfl, _, _, rfl, _, _, rfl, rfl, ?_⟩⟩
  -- the state ahead of the loop
  generalize eH0 : upd H' dt (HO.dK (mergeK [] (x.text.map fun n : Nat => ((Sum.inl (n : Int) : Key), V.bl true)))) = H0 at s1 dn0 s2 hr0
  have s3 : Same H0 (upd H2 q (.tup [.ref dt, .ref r])) := s2.trans (Same.new hq)
  generalize eHb : upd H2 q (HO.tup [V.ref dt, V.ref r]) = Hb at s3
  have rb : Hb r = some (.lst us) := by rw [← eHb]; exact Same.new hq _ _ hr1
  have sb : StL Hb us (Vbjbaj.statementsOf p f) := by rw [← eHb]; exact hus.same (Same.new hq)
  have dnb : DN Hb dt (x.text.foldl insN []) := dn0.same s3
  have sHb : Same H Hb := s1.trans s3
  have ji0 : JnI (Vbjbaj.statementsOf p f) x.text (x.text.foldl insN []) := by
    obtain ⟨q1, q2, q3⟩ := fold_insN x.text []
    have tk := pw.tk
    exact ⟨q2 .nil, fun b hb => (q1 b).mpr (.inr hb), fun b hb => by
      rcases (q1 b).mp hb with z | z
      · simp at z
      · exact .base z (by have := txt b z; omega)⟩
  refine ⟨fun m σ Hc => ∃ ts b, JnS Hb d f dt r ts b σ Hc ∧ JnI (Vbjbaj.statementsOf p f) x.text ts ∧ (b = false → ∀ s ∈ Vbjbaj.statementsOf p f, Quiet s ts) ∧ m = 20 - ts.length + (if b then 1 else 0),
    ⟨_, _, true, ⟨none, none, none, none, rfl, SameX.refl _ _, dnb⟩, ji0, (fun z => by cases z), rfl⟩, ?_⟩
  rintro m σ Hc ⟨ts, b, ⟨x5, x6, x7, x8, rfl, sx, dn⟩, ji, quiet, rfl⟩
  have fac := fa.same (sx.same sHb hdtH)
  refine ⟨_, rfl, _, rfl, ?_⟩
  cases b with
  | true =>
    refine iteT ⟨_, fun _ _ z => z, ?_⟩
    have ltT : ∀ s ∈ Vbjbaj.statementsOf p f, ∀ a ∈ Vbjbaj.tokensOf s, a < 20 := fun s hs a ha => by
      have := token_lt (seen_ok pw.ok hs) a ha
      have := pw.tk
      omega
    refine ⟨_, rfl, r, rfl, ⟨_, SqL.of (sx _ _ (dnb.notLst rb) rb)⟩, for_list (K := K) (a := r) (xs := us)
      (fun i σ H3 => ∃ ts' b', JnS Hb d f dt r ts' b' σ H3 ∧ JnI (Vbjbaj.statementsOf p f) x.text ts' ∧ (b' = false → ts' = ts ∧ ∀ s ∈ (Vbjbaj.statementsOf p f).take i, Quiet s ts) ∧ (b' = true → ts.length < ts'.length))
      ⟨ts, false, ⟨x5, x6, x7, x8, rfl, sx, dn⟩, ji, fun _ => ⟨rfl, fun s hs => by simp at hs⟩, fun z => by cases z⟩
      (fun i σ H3 _ ⟨_, _, ⟨_, _, _, _, _, sx3, _⟩, _⟩ => SqL.of (sx3 _ _ (dnb.notLst rb) rb)) ?_ ?_⟩
    · rintro i v σ H3 hv ⟨ts', b', ⟨y5, y6, y7, y8, rfl, sx3, dn3⟩, ji3, q1, q2⟩
      obtain ⟨s, hs, b0, rfl, hb0⟩ := stL_at (sb.sx sx3 dnb) hv
      have es := take_succ' hs
      have sm : s ∈ Vbjbaj.statementsOf p f := List.mem_of_getElem? hs
      have ol := tokensOf_len s
      refine ⟨_, rfl, _, s, rfl, ⟨b0, rfl, hb0⟩, fun H4 o s4 ho0 ho => ?_⟩
      have sx4 := sx3.more s4
      have dn4 := dn3.same s4
      have idle : (¬ (∃ a ∈ Vbjbaj.tokensOf s, a ∈ ts') ∨ ∀ a ∈ Vbjbaj.tokensOf s, a ∈ ts') → ∀ H5, Same H4 H5 → ∃ ts'' b'', JnS Hb d f dt r ts'' b'' [some (.ref d), some (.int (f : Int)), some (.ref dt), some (.ref r), some (.bl b'), some (.ref b0), some (.ref o), y7, y8] H5 ∧ JnI (Vbjbaj.statementsOf p f) x.text ts'' ∧ (b'' = false → ts'' = ts ∧ ∀ s ∈ (Vbjbaj.statementsOf p f).take (i + 1), Quiet s ts) ∧ (b'' = true → ts.length < ts''.length) := by
        intro hq H5 s5
        refine ⟨ts', b', ⟨_, _, _, _, rfl, sx4.more s5, dn4.same s5⟩, ji3, fun hb => ?_, q2⟩
        obtain ⟨e, hall⟩ := q1 hb
        refine ⟨e, fun s' hs' => ?_⟩
        rw [es] at hs'
        rcases List.mem_append.mp hs' with z | z
        · exact hall s' z
        · rw [List.mem_singleton.mp z]
          intro hx b hb
          rw [← e] at hx ⊢
          rcases hq with hq | hq
          · exact absurd hx hq
          · exact hq b hb
      refine ⟨_, rfl, o, rfl, ⟨_, SqL.of ho⟩, fun D1 hD1 => lc_has rfl (by show 7 < 9; decide) ho dn4 (by omega) hD1 fun H5 s5 hD5 => ?_⟩
      refine ⟨D1, _, rfl, SqL.of hD5, _, rfl, ite2 (fun c => ?_) (fun c => ?_)⟩
      · have ex := (any_has _ _).mp c
        have ho5 := s5 _ _ ho
        refine ⟨_, rfl, o, rfl, ⟨_, SqL.of ho5⟩, fun D2 hD2 => lc_has rfl (by show 7 < 9; decide) ho5 (dn4.same s5) (by omega) hD2 fun H6 s6 hD6 => ?_⟩
        refine ⟨D2, _, rfl, SqL.of hD6, _, rfl, ite2 (fun c2 => ?_) (fun c2 => ?_)⟩
        · have s56 := s5.trans s6
          have ho6 := s56 _ _ ho
          have no : ∃ b ∈ Vbjbaj.tokensOf s, b ∉ ts' := by
            refine Classical.byContradiction fun hn => ?_
            have : (List.map (fun a => decide (a ∈ ts')) (Vbjbaj.tokensOf s)).all id = true := (all_has _ _).mpr fun a ha => Classical.byContradiction fun q => hn ⟨a, ha, q⟩
            rw [this] at c2
            cases c2
          refine ⟨_, rfl, o, rfl, ⟨_, SqL.of ho6⟩, for_list (K := K) (a := o) (xs := nV (Vbjbaj.tokensOf s))
            (fun j σ H7 => ∃ x7 : Option V, σ = [some (.ref d), some (.int (f : Int)), some (.ref dt), some (.ref r), some (.bl b'), some (.ref b0), some (.ref o), x7, y8] ∧ SameX dt Hb H7 ∧ DN H7 dt (((Vbjbaj.tokensOf s).take j).foldl insN ts') ∧ H7 o = some (.lst (nV (Vbjbaj.tokensOf s))))
            ⟨y7, rfl, sx4.more s56, dn4.same s56, ho6⟩ (fun j σ H7 _ ⟨_, _, _, _, q⟩ => SqL.of q) ?_ ?_⟩
          · rintro j y σ H7 hy ⟨z7, rfl, sx7, dn7, ho7⟩
            obtain ⟨m, hm, rfl⟩ := nV_at hy
            have l20 := (ji3.add sm (ltT s sm) ex ((Vbjbaj.tokensOf s).take j) fun a ha => List.mem_of_mem_take ha).len
            obtain ⟨ob, hput, dn8⟩ := dn7.put (by omega) m (.bl true)
            refine ⟨_, rfl, _, rfl, dt, _, rfl, hput, _, rfl, sx7.put, ?_, ?_⟩
            · rw [take_succ' hm, List.foldl_append]
              exact dn8
            · rw [upd_ne (dn7.notLst ho7)]
              exact ho7
          · rintro σ H7 ⟨z7, rfl, sx7, dn7, ho7⟩
            rw [nV_len, List.take_length] at dn7
            refine ⟨_, true, ⟨_, _, _, _, rfl, sx7, dn7⟩, ji3.add sm (ltT s sm) ex _ fun a ha => ha, (fun z => by cases z), fun _ => ?_⟩
            obtain ⟨b, hb, hbn⟩ := no
            have := fold_more (Vbjbaj.tokensOf s) ts' b hb hbn
            cases b' with
            | true => have := q2 rfl; omega
            | false => rw [(q1 rfl).1] at this ⊢; exact this
        · refine idle (.inr ((all_has _ _).mp ?_)) _ (s5.trans s6)
          cases q : (List.map (fun a => decide (a ∈ ts')) (Vbjbaj.tokensOf s)).all id with
          | true => rfl
          | false => rw [q] at c2; exact absurd rfl c2
      · exact iteF (idle (.inl fun hx => c ((any_has _ _).mpr hx)) _ s5)
    · rintro σ H3 ⟨ts', b', js, ji3, q1, q2⟩
      have l20 := ji3.len
      have lus : us.length = (Vbjbaj.statementsOf p f).length := Paired.len sb
      rw [lus, List.take_length] at q1
      cases b' with
      | false =>
        obtain ⟨e, hall⟩ := q1 rfl
        subst e
        exact ⟨_, by show _ + 0 < _ + 1; omega, ts', false, js, ji3, fun _ => hall, rfl⟩
      | true =>
        have := q2 rfl
        exact ⟨_, by show 20 - ts'.length + 1 < 20 - ts.length + 1; omega, ts', true, js, ji3, (fun z => by cases z), rfl⟩
  | false =>
    have hq := quiet rfl
    have js := joined_of ji.tx ji.jn hq
    obtain ⟨kvs, hkv, dks⟩ := id dn
    have l20 := ji.len
    have kk : kvs.map (·.1) = (ts.map fun n : Nat => (n : Int)).map Sum.inl := by
      rw [dks, List.map_map]
      rfl
    refine iteF ⟨_, rfl, dt, kvs, _, rfl, .inl hkv, kk, by rw [List.length_map]; omega, fun ys r1 hperm hsort hr1 => ?_⟩
    rw [sorted_up hperm hsort ji.nd (joined_up _ _).up js]
    have s5 : Same Hc (upd Hc r1 (.lst (nV (Vbjbaj.joined (Vbjbaj.statementsOf p f) x.text)))) := Same.new hr1
    generalize eH5 : upd Hc r1 (HO.lst (nV (Vbjbaj.joined (Vbjbaj.statementsOf p f) x.text))) = H5 at s5
    have h5r1 : H5 r1 = some (.lst (nV (Vbjbaj.joined (Vbjbaj.statementsOf p f) x.text))) := by rw [← eH5, upd_same]
    have sx5 := sx.more s5
    have dn5 := dn.same s5
    have r5 := sx5 _ _ (dnb.notLst rb) rb
    have st5 := sb.sx sx5 dnb
    have l120 := statementsOf_len pw.ok f
    refine ⟨_, rfl, r, rfl, ⟨_, SqL.of r5⟩, fun D2 hD2 => lc_list (K := K) (a := r) (xs := us) (fun i H' => LcT stT H5 D2 (((Vbjbaj.statementsOf p f).take i).filter fun s => (Vbjbaj.tokensOf s).any (Vbjbaj.joined (Vbjbaj.statementsOf p f) x.text).contains) H')
      (LcT.start hD2) (fun i H' _ pv => SqL.of (pv.1 _ _ r5)) (fun i v H6 hv pv => ?_) (fun H6 pv => ?_)⟩
    · obtain ⟨s, hs, b0, rfl, hb0⟩ := stL_at (st5.same pv.1) hv
      have es := take_succ' hs
      have ol := tokensOf_len s
      have ra : ((Vbjbaj.tokensOf s).map fun a => decide (a ∈ ts)).any id = (Vbjbaj.tokensOf s).any (Vbjbaj.joined (Vbjbaj.statementsOf p f) x.text).contains := by
        rw [List.any_map]
        congr 1
        funext a
        show decide (a ∈ ts) = (Vbjbaj.joined (Vbjbaj.statementsOf p f) x.text).contains a
        rw [Bool.eq_iff_iff, decide_eq_true_eq, js a, List.contains_iff_mem]
      refine ⟨rfl, _, rfl, _, s, rfl, ⟨b0, rfl, hb0⟩, fun H7 o s7 ho0 ho => ?_⟩
      refine ⟨o, rfl, ⟨_, SqL.of ho⟩, fun D3 hD3 => lc_has rfl (by show 7 < 9; decide) ho ((dn5.same pv.1).same s7) (by omega) hD3 fun H8 s8 hD8 => ?_⟩
      refine ⟨D3, _, rfl, SqL.of hD8, _, rfl, ?_⟩
      rw [ra]
      refine ite2 (fun c => ⟨_, rfl, ?_⟩) (fun c => ?_)
      · have := pv.push hD2 (s7.trans s8) (y := .ref b0) (a := s) ⟨b0, rfl, (s7.trans s8) _ _ hb0⟩ (Nat.le_trans (List.length_filter_le _ _) (by rw [List.length_take]; omega))
        rw [es, filter_snoc_pos (p := fun s => (Vbjbaj.tokensOf s).any (Vbjbaj.joined (Vbjbaj.statementsOf p f) x.text).contains) c]
        exact this
      · have := pv.more (s7.trans s8)
        rw [es, filter_snoc_neg (p := fun s => (Vbjbaj.tokensOf s).any (Vbjbaj.joined (Vbjbaj.statementsOf p f) x.text).contains) c]
        exact this
    · obtain ⟨s6, acc, hacc, racc⟩ := pv
      have lus : us.length = (Vbjbaj.statementsOf p f).length := Paired.len sb
      rw [lus, List.take_length, ← relevantOf_some hx] at racc
      refine ⟨by show 2 ≤ sizeLine; decide, fun q9 hq9 => ?_⟩
      have sall : Same H H6 := (sx5.same sHb hdtH).trans s6
      have s9 : Same H6 (upd H6 q9 (.tup [.ref r1, .ref D2])) := Same.new hq9
      exact k _ q9 r1 D2 acc (sall.trans s9) (sall.free hq9) upd_same (s9 _ _ (s6 _ _ h5r1)) (s9 _ _ hacc) (Paired.mapP racc fun _ _ q => q.same s9)
end
end Sf
/-! W9: key, with_imports. -/
namespace Sf
open PySem PySem.Spec PyProof.Rows L2
open Vbjbaj (Statement File Project)
/-- v is a key: the text's tuple, and a tuple of statements -/
def KeyV (H : Hp) (v : V) (k : Vbjbaj.Key) : Prop := ∃ (a tt st : Addr) (us : List V), v = .ref a ∧ H a = some (.tup [.ref tt, .ref st]) ∧ H tt = some (.tup (nV k.text)) ∧ H st = some (.tup us) ∧ StL H us k.statements
theorem KeyV.same {H H' : Hp} {v : V} {k : Vbjbaj.Key} (e : Same H H') (h : KeyV H v k) : KeyV H' v k := by
  obtain ⟨a, tt, st, us, h1, h2, h3, h4, h5⟩ := h
  exact ⟨a, tt, st, us, h1, e _ _ h2, e _ _ h3, e _ _ h4, h5.same e⟩
def keyD (k : Vbjbaj.Key) : PyData := .tuple [.tuple (k.text.map iD), .tuple (k.statements.map stD)]
theorem dp_key {K : PySem.W.Frag} {H : Hp} {v : V} {k : Vbjbaj.Key} (h : KeyV H v k) : Dp K H v (keyD k) := by
  obtain ⟨a, tt, st, us, rfl, h2, h3, h4, h5⟩ := h
  exact .tup (SqT.of h2) (.cons (dp_ints (SqT.of h3)) (.cons (dp_sts (SqT.of h4) h5) .nil))
theorem key_shaped (k : Vbjbaj.Key) : SeqAt.shaped (keyD k) = true := by
  have h1 := layAll_map st_lay k.statements
  have h2 := layAll_map i_lay k.text
  have h3 := depthAll_map st_depth k.statements
  have h4 := depthAll_map i_depth k.text
  unfold SeqAt.shaped
  rw [Bool.and_eq_true, decide_eq_true_eq]
  constructor
  · simp [keyD, PyData.canLay0, PyData.canLayAll0, h1, h2]
  · simp only [keyD, PyData.depth, PyData.depthAll]; omega
theorem eqv_key (a b : Vbjbaj.Key) : PyData.eqv (keyD a) (keyD b) = decide (a = b) := by
  show (PyData.eqvAll (a.text.map iD) (b.text.map iD) && (PyData.eqvAll (a.statements.map stD) (b.statements.map stD) && true)) = _
  rw [eqvAll_map eqv_int, eqvAll_map eqv_st]
  obtain ⟨a1, a2⟩ := a
  obtain ⟨b1, b2⟩ := b
  by_cases e1 : a1 = b1
  · by_cases e2 : a2 = b2
    · subst e1 e2; simp
    · simp [e2]
  · simp [e1]
/-- a class that is called: its __init__ keeps sp -/
def MkC (P : Program) (w : World) (K : PySem.W.Frag) (mg : Str → Option Value) (base : Heap) (k : Nat) (x : Str) (C : Addr) (ps : List Str) (sp : Sp) : Prop := mg x = some (.ref C) ∧ ∃ (f : Addr) (fd : FuncData), Mk K C f ∧ Binds K fd ps [] ∧ FnOk P w K mg base CX0 k f fd ps sp
theorem pe_mkc {X : Cx} {k : Nat} {x : Str} {C : Addr} {ps : List Str} {sp : Sp} {p pos : Pos} {e : Expr} {es : List Expr} {t : TA} (M : MkC X.prog X.w X.K X.mg X.base k x C ps sp) (hr : Room (k + 1) X.A) (ha : PA X (e :: es) t) (hg : Gl X x := by rfl)
    (hdb : (x == ("__debug__" : Str)) = false := by decide) (he : starEach (e :: es) X.env = (false, eval e X.env) :: starEach es X.env := by rfl) (hpl : (backTo pos (starEach es X.env)).any (·.1) = false := by rfl) :
    PE X (.Call (.Name x p) (e :: es) [] pos) (tMake C sp [] E0 t) := by
  obtain ⟨hm, f, fd, M, hb, F⟩ := M
  exact pe_make M F hr hg hm hb .nil pass0 ha hdb he hpl
theorem mk_of {P : Program} {w : World} {K : PySem.W.Frag} {mg : Str → Option Value} {base : Heap} {k : Nat} {x qual : Str} {C : Addr} {st : Stmt} {ps : List Str} {sp : Sp} (D : MakeAt K mg x qual C st ps) (h : ∀ f fd, Fun K "__init__" qual st f fd → FnOk P w K mg base CX0 k f fd ps sp) : MkC P w K mg base k x C ps sp := by
  obtain ⟨hm, f, fd, M, F, hb⟩ := D
  exact ⟨hm, f, fd, M, hb, h f fd F⟩
section
variable {P : Program} {w : World} {K : PySem.W.Frag} {mg : Str → Option Value} {base : Heap} {A : Ad}
def sp_key (A : Ad) : Sp := fun vs H Q _ => ∃ (d : Addr) (f t : Nat) (p : Project) (k : Vbjbaj.Key), vs = [.ref d, .int (f : Int)] ∧ Vbjbaj.keyOf p f = some k ∧ PWf t p ∧ FilesAt A.File H d p ∧ ∀ H' r, Same H H' → KeyV H' (.ref r) k → Q (.ref r) H'
theorem keyOf_file {p : Project} {f : Nat} {k : Vbjbaj.Key} (h : Vbjbaj.keyOf p f = some k) : ∃ x, Vbjbaj.fileAt p f = some x ∧ k = ⟨x.text, Vbjbaj.relevantOf p f⟩ := by
  cases e : Vbjbaj.fileAt p f with
  | none => rw [key_none e] at h; cases h
  | some x => rw [key_some e] at h; exact ⟨x, rfl, (Option.some.inj h).symm⟩
theorem ok_key (T : Txt K mg A) (C_joined : Cal P w K mg base CX0 5 "joined" ["files", "number"] (sp_joined A)) {f : Addr} {fd : FuncData} (F : Fun K "key" "key" s_key f fd) : FnOk P w K mg base CX0 6 f fd ["files", "number"] (sp_key A) := by
  refine F.ok sc_key (fun vs H Q E h => by obtain ⟨d, n, t, p, x, rfl, _⟩ := h; rfl) (fun cdv A' outer s H vs Q E hr h => ?_)
  have hu := hu_of hr
  refine ⟨_, (pss_one (ps_ret (pe_tup (pa_cons (pe_fld (pe_dget hu (pv 0) (pv 1) (fun _ _ => rfl)) rfl) (pa_cons (pe_callTy call_tuple_of (by rfl) T.b_tuple (by decide +kernel) (pa_cons (pe_ix ix_tup (pe_cal C_joined (hr.mono (by decide)) pass0 (pa_cons (pv 0) (pa_cons (pv 1) pa_nil))) pe_int (fun _ _ => rfl)) pa_nil)) pa_nil))))), ?_⟩
  obtain ⟨d, f, t, p, kk, rfl, hk, pw, fa, k⟩ := h
  obtain ⟨x, hx, rfl⟩ := keyOf_file hk
  obtain ⟨a, ga, dx, it, st, tt, ss, h1, h2, h3, h4, h5⟩ := fa.get hx
  refine ⟨_, rfl, _, rfl, d, _, rfl, ga, a, A.File, dx, _, _, rfl, h1, T.clF, T.nF_text, fileF_text it st tt, ?_⟩
  refine ⟨_, rfl, _, rfl, d, f, t, p, x, rfl, hx, pw, fa, fun H1 r r1 r2 us s1 hr0 hr1 e1 e2 hus => ?_⟩
  refine ⟨r, _, 1, .ref r2, rfl, rfl, SqT.of hr1, rfl, r2, us, rfl, .inl ⟨SqL.of e2, fun l hl => ?_⟩⟩
  have s2 : Same H1 (upd H1 l (.tup us)) := Same.new hl
  refine ⟨by show 2 ≤ sizeLine; decide, fun q hq => ?_⟩
  have s3 : Same (upd H1 l (.tup us)) (upd (upd H1 l (.tup us)) q (.tup [.ref tt, .ref l])) := Same.new hq
  exact k _ q ((s1.trans s2).trans s3) ⟨q, tt, l, us, rfl, upd_same, (s1.trans (s2.trans s3)) _ _ h5, s3 _ _ upd_same, hus.same (s2.trans s3)⟩

/-! ### File(..), with_imports -/
def fileV (i s t : V) : List (Str × V) := [("imports", i), ("statements", s), ("text", t)]
def sp_File_init (A : Ad) : Sp := fun vs H Q _ => ∃ (p dx : Addr) (i s t : V), vs = [.ref p, i, s, t] ∧ H p = some (.ins A.File dx []) ∧ ∀ H', H' p = some (.ins A.File dx (fileV i s t)) → (∀ b o, b ≠ p → H b = some o → H' b = some o) → Q .non H'
theorem put_last {f : Str} {v : V} : putF f v [] = [(f, v)] := rfl
theorem put_skip {f g : Str} {v x : V} {r : List (Str × V)} (h : ¬ g = f) : putF f v ((g, x) :: r) = (g, x) :: putF f v r := if_neg h
theorem put_hit {f : Str} {v x : V} {r : List (Str × V)} : putF f v ((f, x) :: r) = (f, v) :: r := if_pos rfl
theorem nodup_inl {ks : List Nat} (h : (ks.map fun n : Nat => (Sum.inl (n : Int) : Key)).Nodup) : ks.Nodup := by
  refine (List.pairwise_map.mp h).imp fun {a b} hn e => hn ?_
  rw [e]
theorem ok_File_init (T : Txt K mg A) {f : Addr} {fd : FuncData} (F : Fun K "__init__" "File.__init__" s_File_init f fd) : FnOk P w K mg base CX0 1 f fd ["self", "imports", "statements", "text"] (sp_File_init A) := by
  refine F.ok sc_File_init (fun vs H Q E h => by obtain ⟨p, dx, i, s, t, rfl, _⟩ := h; rfl) (fun cdv A' outer s H vs Q E hr h => ?_)
  refine ⟨_, (pss_cons (ps_fld (pv 0) (pv 1) rfl)
(pss_cons (ps_fld (pv 0) (pv 2) rfl)
(pss_one (ps_fld (pv 0) (pv 3) rfl)))), ?_⟩
  obtain ⟨p, dx, i, s, t, rfl, hp, k⟩ := h
  refine ⟨_, rfl, _, rfl, p, A.File, dx, [], rfl, hp, T.clF, T.nF_imports, (by show 0 < 1000; decide), ?_⟩
  refine ⟨_, rfl, _, rfl, p, A.File, dx, _, rfl, upd_same, T.clF, T.nF_statements, (by show 1 < 1000; decide), ?_⟩
  refine ⟨_, rfl, _, rfl, p, A.File, dx, _, rfl, upd_same, T.clF, T.nF_text, (by show 2 < 1000; decide), ?_⟩
  refine k _ ?_ (fun b o hb e => by rw [upd_ne hb, upd_ne hb, upd_ne hb]; exact e)
  rw [upd_same, put_last, put_skip (by decide +kernel), put_last, put_skip (by decide +kernel), put_skip (by decide +kernel), put_last]
  rfl
theorem KF.put {C : Addr} {H H' : Hp} {kvs : List (Key × V)} {p : Project} (h : KF C H kvs p) (e : Same H H') {f : Nat} (hf : f < p.length) {a : Addr} {x : File} (hx : FileAt C H' a x) : KF C H' (putK kvs (.inl (f : Int)) (.ref a)) (Vbjbaj.put p f (some x)) := by
  obtain ⟨ks, ek, mk⟩ := h.ks
  have dk : DKs kvs ks := ek
  have nks : ks.Nodup := by
    have := h.nd
    rw [ek] at this
    exact nodup_inl this
  refine ⟨?_, ⟨insN ks f, dk.put f _, fun g => ?_⟩, fun g y hy => ?_⟩
  · have := dk.put f (.ref a)
    unfold DKs at this
    rw [this]
    exact inl_nodup (insN_nodup nks)
  · rw [insN_mem, mk, fileAt_put hf]
    by_cases c : g = f
    · rw [if_pos c]; simp [c]
    · rw [if_neg c]; simp [c]
  · rw [fileAt_put hf] at hy
    rw [valV_put]
    by_cases c : g = f
    · rw [if_pos c] at hy
      cases hy
      rw [if_pos (by rw [c])]
      exact ⟨a, rfl, hx⟩
    · rw [if_neg c] at hy
      have : ¬ (Sum.inl (g : Int) : Key) = Sum.inl (f : Int) := fun z => c (by have := Sum.inl.inj z; omega)
      rw [if_neg this]
      obtain ⟨b, h1, h2⟩ := h.at_ g y hy
      exact ⟨b, h1, h2.same e⟩
/-- an instance that was made -/
theorem made_same {H H1 : Hp} {x dx C : Addr} (nx : H x = none) (nd : H dx = none) (k : ∀ b o, b ≠ x → (upd (upd H dx (.own x)) x (.ins C dx [])) b = some o → H1 b = some o) : Same H H1 := fun b o e => by
  have h1 := ne_of_none e nx
  refine k b o h1 ?_
  rw [upd_ne h1, upd_ne (ne_of_none e nd)]
  exact e
def sp_with_imports (A : Ad) : Sp := fun vs H Q _ => ∃ (d it : Addr) (f : Nat) (p : Project) (l : List Nat) (x : File), vs = [.ref d, .int (f : Int), .ref it] ∧ Vbjbaj.fileAt p f = some x ∧ p.length = 10 ∧ FilesAt A.File H d p ∧ H it = some (.tup (nV l)) ∧
  ∀ H' r kvs, Same H H' → H r = none → H' r = some (.dK kvs) → KF A.File H' kvs (Vbjbaj.withImports p f l) → Q (.ref r) H'
theorem ok_with_imports (T : Txt K mg A) (M_File : MkC P w K mg base 1 "File" A.File ["self", "imports", "statements", "text"] (sp_File_init A)) {f : Addr} {fd : FuncData} (F : Fun K "with_imports" "with_imports" s_with_imports f fd) : FnOk P w K mg base CX0 3 f fd ["files", "number", "imports"] (sp_with_imports A) := by
  refine F.ok sc_with_imports (fun vs H Q E h => by obtain ⟨d, it, f, p, l, x, rfl, _⟩ := h; rfl) (fun cdv A' outer s H vs Q E hr h => ?_)
  have hu := hu_of hr
  refine ⟨_, (pss_cons (ps_set (i := 3) sc_with_imports.nd rfl (Or.inl rfl) (pe_callTy call_dictD (by rfl) T.b_dict (by decide +kernel) (pa_cons (pv 0) pa_nil)))
(pss_cons (ps_dput hu (pv 3) (pv 1) (pe_mkc M_File (hr.mono (by decide)) (pa_cons (pv 2) (pa_cons (pe_fld (pe_dget hu (pv 0) (pv 1) (fun _ _ => rfl)) rfl) (pa_cons (pe_fld (pe_dget hu (pv 0) (pv 1) (fun _ _ => rfl)) rfl) pa_nil)))) rfl)
(pss_one (ps_ret (pv 3))))), ?_⟩
  obtain ⟨d, it', f, p, l, x, rfl, hx, pl, ⟨kvs, rd, kf⟩, hit, k⟩ := h
  refine ⟨_, rfl, d, kvs, rfl, rd, fun df hdf => ?_⟩
  have s0 : Same H (upd H df (.dK kvs)) := Same.new hdf
  have fa1 : FilesAt A.File (upd H df (.dK kvs)) d p := ⟨kvs, Same.rd s0 rd, kf.same s0⟩
  obtain ⟨a, ga, dx, it, st, tt, ss, h1, h2, h3, h4, h5⟩ := fa1.get hx
  refine ⟨_, rfl, _, rfl, _, rfl, d, _, rfl, ga, a, A.File, dx, _, _, rfl, h1, T.clF, T.nF_statements, fileF_statements it st tt, _, rfl, _, rfl, d, _, rfl, ga, a, A.File, dx, _, _, rfl, h1, T.clF, T.nF_text, fileF_text it st tt, ?_⟩
  intro y dy hy hdy ne
  refine ⟨y, dy, _, _, _, rfl, upd_same, fun H1 hy1 kp => ⟨rfl, ?_⟩⟩
  have s1 : Same (upd H df (.dK kvs)) H1 := made_same hy hdy kp
  have fy : FileAt A.File H1 y { x with imports := l } := ⟨dy, it', st, tt, ss, hy1, s1 _ _ (s0 _ _ hit), s1 _ _ h3, h4.same s1, s1 _ _ h5⟩
  have dfe : H1 df = some (.dK kvs) := s1 _ _ upd_same
  have kl : kvs.length ≤ 10 := by
    obtain ⟨ks, ek, mk⟩ := kf.ks
    have nks : ks.Nodup := by
      have := kf.nd
      rw [ek] at this
      exact nodup_inl this
    rw [map_len ek]
    refine lt_of_nodup 10 _ nks fun g hg => ?_
    obtain ⟨x, e⟩ := Option.isSome_iff_exists.mp ((mk g).mp hg)
    have := fileAt_lt e
    omega
  have sx : SameX df H1 (upd H1 df (.dK (putK kvs (.inl (f : Int)) (.ref y)))) := (SameX.refl df H1).put
  have s2 : Same H (upd H1 df (.dK (putK kvs (.inl (f : Int)) (.ref y)))) := Same.put (s0.trans s1) hdf
  refine ⟨_, rfl, _, rfl, df, _, rfl, DPut.k (k := .inl (f : Int)) dfe (small1000 (by omega)), _, rfl, ?_⟩
  have fy2 : FileAt A.File (upd H1 df (.dK (putK kvs (.inl (f : Int)) (.ref y)))) y { x with imports := l } := by
    obtain ⟨dy, it', st, tt, ss, q1, q2, q3, q4, q5⟩ := fy
    have nd : ∀ {b o}, H1 b = some o → (∀ kv, o ≠ .dK kv) → b ≠ df := fun e no z => by rw [z, dfe] at e; exact no _ (Option.some.inj e).symm
    exact ⟨dy, it', st, tt, ss, sx _ _ (nd q1 fun _ z => by cases z) q1, sx _ _ (nd q2 fun _ z => by cases z) q2, sx _ _ (nd q3 fun _ z => by cases z) q3,
      Paired.mapP q4 fun _ _ ⟨c, e1, e2⟩ => ⟨c, e1, sx _ _ (nd e2 fun _ z => by cases z) e2⟩, sx _ _ (nd q5 fun _ z => by cases z) q5⟩
  refine k _ df _ s2 hdf upd_same ?_
  have := kf.put s2 (f := f) (by have := fileAt_lt hx; omega) fy2
  unfold Vbjbaj.withImports
  rw [hx]
  exact this
end
end Sf
/-! W10: rows_of. -/
namespace Sf
open PySem PySem.Spec PyProof.Rows L2
open Vbjbaj (Statement File Project)
theorem cut_from {xs : List V} {i : Nat} : cutV xs (some ((i : Int) + 1)) none = xs.drop (i + 1) := by
  unfold cutV
  have e : ((i : Int) + 1) = ((i + 1 : Nat) : Int) := by omega
  rw [e, HT.sIx_none, HT.sIx_nat]
  by_cases c : i + 1 ≤ xs.length
  · rw [Nat.min_eq_left c, List.take_of_length_le (by rw [List.length_drop]; omega)]
  · rw [Nat.min_eq_right (by omega), Nat.sub_self, List.take_zero, List.drop_of_length_le (by omega)]
theorem nV_drop (l : List Nat) (i : Nat) : (nV l).drop i = nV (l.drop i) := by simp
section
variable {P : Program} {w : World} {K : PySem.W.Frag} {mg : Str → Option Value} {base : Heap} {A : Ad}
def sp_rows_of (K : PySem.W.Frag) (n : Nat) : Sp := fun vs H Q _ => ∃ (a : Addr) (items : List Nat) (size : Nat), vs = [.ref a, .int (size : Int)] ∧ SqT K H a (nV items) ∧ items.length ≤ 10 ∧ size < n ∧
  ∀ H' r us, Same H H' → H r = none → H' r = some (.lst us) → Paired (TupV nV H') us (Vbjbaj.partsOf size items) → Q (.ref r) H'
theorem ok_rows_step (T : Txt K mg A) {n : Nat} (C_rows_of : Cal P w K mg base CX0 n "rows_of" ["items", "size"] (sp_rows_of K n)) {f : Addr} {fd : FuncData} (F : Fun K "rows_of" "rows_of" s_rows_of f fd) : FnOk P w K mg base CX0 (n + 1) f fd ["items", "size"] (sp_rows_of K (n + 1)) := by
  refine F.ok sc_rows_of (fun vs H Q E h => by obtain ⟨a, items, size, rfl, _⟩ := h; rfl) (fun cdv A' outer s H vs Q E hr h => ?_)
  have hu := hu_of hr
  refine ⟨_, (pss_cons (ps_if (pt_cmpR op_eq (pv 1) pe_int (nomark _)) (pss_one (ps_ret (pe_lst (pa_cons (pe_tup pa_nil) pa_nil)))) pss_nil)
(pss_cons (ps_set (i := 2) sc_rows_of.nd rfl (Or.inl rfl) (pe_lst pa_nil))
(pss_cons (ps_for PassesOwn.never rfl (pi_range1 rfl T.b_range (pa_cons (pe_callB call_len_seq (by rfl) T.b_len (by decide +kernel) (pa_cons (pv 0) pa_nil)) pa_nil)) (pg_name (i := 3) sc_rows_of.nd rfl (Or.inr rfl)) (pss_one (ps_expr (pe_bm PySem.F.plainAttrs_list PySem.F.slot_list_extend PySem.F.type_list_extend mt_extend (pv 2) (pa_cons (pe_lc (own := [("row", 4)]) (g := (gName 4)) (tt := tYes) (te := (tOp (rCatT K) (tTup (tCons (tOp (rIxT K) (tVar 0) (tVar 3)) tNil)) (tVar 4))) (by rfl) sc_rows_of.nd (pi_list (pe_cal C_rows_of hr pass0 (pa_cons (pe_slice sl_tup (pv 0) (po_some (pe_op op_add (pv 3) pe_int)) po_none) (pa_cons (pe_op op_sub (pv 1) pe_int) pa_nil)))) (blkOk_by (own := [("row", 4)]) (N := N_rows_of) (sc := defScope s_rows_of) (by decide +kernel)) (fun _ _ _ _ _ => (pg_name (i := 4) sc_rows_of.nd rfl (Or.inl rfl))) (fun _ _ _ _ _ => pts_nil) (fun _ _ _ _ _ => (pe_op op_catT (pe_tup (pa_cons (pe_ix ix_tup (pv 0) (pv 3) (fun _ _ => rfl)) pa_nil)) (pv 4)))) pa_nil)))))
(pss_one (ps_ret (pv 2)))))), ?_⟩
  obtain ⟨a, items, size, rfl, ha, hl, hs, k⟩ := h
  refine ⟨_, rfl, rfl, _, rfl, ite2 (fun c => ?_) (fun c => ?_)⟩
  · have c' : size = 0 := by simpa using c
    subst c'
    refine ⟨by show 0 ≤ sizeLine; decide, fun q hq => ⟨by show 1 ≤ sizeLine; decide, fun r hr => ?_⟩⟩
    have s1 : Same H (upd H q (.tup [])) := Same.new hq
    have s2 : Same H (upd (upd H q (.tup [])) r (.lst [.ref q])) := Same.neu s1 hr
    refine k _ r [.ref q] s2 (s1.free hr) upd_same ?_
    rw [parts_zero]
    exact .cons ⟨q, rfl, (Same.new hr) _ _ upd_same⟩ .nil
  · obtain ⟨m, rfl⟩ : ∃ m, size = m + 1 := ⟨size - 1, by
      have : size ≠ 0 := by simpa using c
      omega⟩
    refine ⟨by show 0 ≤ sizeLine; decide, fun fl hfl => ?_⟩
    refine ⟨_, rfl, a, _, rfl, .inr (Same.tupq (Same.new hfl) ha), _, rfl, by rw [nV_len]; omega, by rw [nV_len]; omega, ?_⟩
    rw [nV_len, Int.toNat_natCast]
    have plen : ∀ j l, l.length ≤ 10 → (Vbjbaj.partsOf j l).length ≤ 1024 := fun j l hl => by
      have h1 := parts_len l j
      have h2 : 2 ^ l.length ≤ 2 ^ 10 := Nat.pow_le_pow_right (by decide) hl
      omega
    refine for_range (lo := 0) (n := items.length) (fun i σ H' => ∃ (x3 : Option V) (ys : List (List Nat)), σ = [some (.ref a), some (.int ((m + 1 : Nat) : Int)), some (.ref fl), x3, none] ∧ LcT nV H fl ys H' ∧ ys ++ Vbjbaj.partsOf (m + 1) (items.drop i) = Vbjbaj.partsOf (m + 1) items)
      ⟨none, [], rfl, LcT.start hfl, rfl⟩ ?_ ?_
    · rintro i σ H1 hi ⟨x3, ys, rfl, lc, ey⟩
      have e0 : (0 : Int) + (i : Int) = (i : Int) := by omega
      rw [e0]
      obtain ⟨v, hv⟩ : ∃ v, items[i]? = some v := ⟨items[i], List.getElem?_eq_getElem hi⟩
      have hv' : (nV items)[i]? = some (V.int (v : Int)) := by rw [List.getElem?_map, hv]; rfl
      have ha1 := Same.tupq lc.1 ha
      obtain ⟨_, acc, hacc, _⟩ := id lc
      refine ⟨_, rfl, .inl ⟨rfl, _, SqL.of hacc⟩, _, rfl, _, rfl, _, _, rfl, rfl, _, rfl, a, _, rfl, ha1, ?_, fun q hq => ?_⟩
      · rintro ⟨h1, _⟩
        have e : ((i : Int) + 1) = ((i + 1 : Nat) : Int) := by omega
        rw [e, HT.sIx_nat, nV_len] at h1
        omega
      have eq : cutV (nV items) (some ((i : Int) + 1)) none = nV (items.drop (i + 1)) := by rw [cut_from, nV_drop]
      rw [eq]
      have s1 : Same H1 (upd H1 q (.tup (nV (items.drop (i + 1))))) := Same.new hq
      generalize eH2 : upd H1 q (HO.tup (nV (items.drop (i + 1)))) = H2 at s1
      have hq2 : H2 q = some (.tup (nV (items.drop (i + 1)))) := by rw [← eH2, upd_same]
      have em : (((m + 1 : Nat) : Int) - 1) = (m : Int) := by omega
      refine ⟨_, rfl, _, _, rfl, rfl, q, items.drop (i + 1), m, by show [V.ref q, V.int (((m + 1 : Nat) : Int) - 1)] = _; rw [em], SqT.of hq2, by rw [List.length_drop]; omega, by omega, fun H3 r us s2 hr0 hr1 hus => ?_⟩
      refine ⟨r, rfl, ⟨_, SqL.of hr1⟩, fun D hD => ?_⟩
      have lus : us.length = (Vbjbaj.partsOf m (items.drop (i + 1))).length := Paired.len hus
      have ha3 := Same.tupq (s1.trans s2) ha1
      refine lc_list (K := K) (a := r) (xs := us) (fun j H' => LcT nV H3 D (((Vbjbaj.partsOf m (items.drop (i + 1))).take j).map fun m => v :: m) H') (LcT.start hD) (fun j H' _ pv => SqL.of (pv.1 _ _ hr1)) (fun j y H4 hy pv => ?_) (fun H4 pv => ?_)
      · obtain ⟨row, hrow, b, rfl, hb⟩ := tupV_at (Paired.mapP hus fun _ _ q => q.same pv.1) hy
        refine ⟨rfl, _, rfl, _, rfl, a, _, _, _, rfl, rfl, Same.tupq pv.1 ha3, at_of rfl hv', by show 1 ≤ sizeLine; decide, fun q5 hq5 => ?_⟩
        have s5 : Same H4 (upd H4 q5 (.tup [V.int (v : Int)])) := Same.new hq5
        have hlen : (((Vbjbaj.partsOf m (items.drop (i + 1))).take j).map fun m => v :: m).length ≤ 100000 := by
          have := plen m (items.drop (i + 1)) (by rw [List.length_drop]; omega)
          rw [List.length_map, List.length_take]; omega
        have er : ((Vbjbaj.partsOf m (items.drop (i + 1))).take (j + 1)).map (fun m => v :: m) = ((Vbjbaj.partsOf m (items.drop (i + 1))).take j).map (fun m => v :: m) ++ [v :: row] := by
          rw [take_succ' hrow, List.map_append]; rfl
        have rsub := parts_sub _ _ _ (List.mem_of_getElem? hrow)
        have rl : row.length ≤ 10 := by
          have := rsub.1.length_le
          rw [List.length_drop] at this
          omega
        refine ⟨_, rfl, q5, b, _, _, rfl, rfl, SqT.of upd_same, SqT.of (s5 _ _ hb), by simp, by rw [nV_len]; show 1 + row.length ≤ sizeLine; exact Nat.le_of_lt (lt_size (by omega)), fun e0 => ?_, fun _ q6 hq6 => ?_⟩
        · have : row = [] := by simpa using e0
          subst this
          have := pv.push hD s5 (y := .ref q5) (a := [v]) ⟨q5, rfl, upd_same⟩ hlen
          rw [er]
          exact this
        · have s6 : Same (upd H4 q5 (.tup [V.int (v : Int)])) (upd (upd H4 q5 (.tup [V.int (v : Int)])) q6 (.tup ([V.int (v : Int)] ++ nV row))) := Same.new hq6
          have := pv.push hD (s5.trans s6) (y := .ref q6) (a := v :: row) ⟨q6, rfl, upd_same⟩ hlen
          rw [er]
          exact this
      · obtain ⟨s4, zs, hzs, rz⟩ := pv
        rw [lus, List.take_length] at rz
        have s14 : Same H1 H4 := (s1.trans s2).trans s4
        obtain ⟨acc', hacc', lacc, lc'⟩ := (lc.more s14).ext hfl rz
        have neD : D ≠ fl := fun z => by
          have := (s1.trans s2) _ _ hacc
          rw [← z, hD] at this
          cases this
        have ly : ys.length ≤ 1024 := by
          have := congrArg List.length ey
          have h2 := plen (m + 1) items hl
          rw [List.length_append] at this
          omega
        have lz : zs.length ≤ 1024 := by
          have := plen m (items.drop (i + 1)) (by rw [List.length_drop]; omega)
          rw [Paired.len rz, List.length_map]
          exact this
        refine ⟨fl, D, _, _, rfl, rfl, hacc', hzs, Nat.le_of_lt (lt_size (by omega)), _, _, rfl, lc', ?_⟩
        rw [List.append_assoc, ← ey, parts_step hv]
    · rintro σ H1 ⟨x3, ys, rfl, ⟨s1, acc, hacc, racc⟩, ey⟩
      rw [List.drop_length, parts_nil, List.append_nil] at ey
      subst ey
      exact ⟨_, rfl, k H1 fl acc s1 hfl hacc racc⟩
theorem fn_false {k : Nat} {f : Addr} {fd : FuncData} {ps : List Str} {sp : Sp} (h : ∀ vs H Q E, ¬ sp vs H Q E) : FnOk P w K mg base CX0 k f fd ps sp :=
  ⟨fun vs H Q E q => (h vs H Q E q).elim, fun _ _ _ _ _ _ vs Q E _ _ _ _ q => (h vs _ Q E q).elim⟩
theorem cal_rows_of (T : Txt K mg A) : ∀ n, Cal P w K mg base CX0 n "rows_of" ["items", "size"] (sp_rows_of K n)
  | 0 => cal_of T.d_rows_of fun _ _ _ => fn_false fun vs H Q E ⟨_, _, _, _, _, _, h, _⟩ => by omega
  | n + 1 => cal_of T.d_rows_of fun _ _ F => ok_rows_step T (cal_rows_of T n) F
end
end Sf
/-! W11: lists of new things; locks; is_enough. -/
namespace Sf
open PySem PySem.Spec PyProof.Rows L2
open Vbjbaj (Statement File Project)
/-- a new list at D, its items told by R -/
def LcR {α : Type} (R : Hp → V → α → Prop) (H1 : Hp) (D : Addr) (ys : List α) (H : Hp) : Prop := Same H1 H ∧ ∃ acc, H D = some (.lst acc) ∧ Paired (R H) acc ys
section
variable {α : Type} {R : Hp → V → α → Prop} {H1 H H4 : Hp} {D : Addr} {ys : List α} {y : V} {a : α}
theorem LcR.start (hD : H1 D = none) : LcR R H1 D [] (upd H1 D (.lst [])) := ⟨Same.new hD, [], upd_same, .nil⟩
theorem LcR.more (hs : ∀ H H' v a, Same H H' → R H v a → R H' v a) (p : LcR R H1 D ys H) (s : Same H H4) : LcR R H1 D ys H4 := by
  obtain ⟨h1, acc, h2, h3⟩ := p
  exact ⟨h1.trans s, acc, s _ _ h2, Paired.mapP h3 fun _ _ q => hs _ _ _ _ s q⟩
theorem LcR.push (hs : ∀ H H' v a, Same H H' → R H v a → R H' v a) (hx : ∀ H H' v a l, H D = some (.lst l) → SameX D H H' → R H v a → R H' v a) (hD : H1 D = none) (p : LcR R H1 D ys H) (s : Same H H4) (hy : R H4 y a) (hl : ys.length ≤ 100000) :
    ∃ acc, H4 D = some (.lst acc) ∧ acc.length < sizeLine ∧ LcR R H1 D (ys ++ [a]) (upd H4 D (.lst (acc ++ [y]))) := by
  obtain ⟨h1, acc, h2, h3⟩ := p.more hs s
  have sx : SameX D H4 (upd H4 D (.lst (acc ++ [y]))) := (SameX.refl D H4).put
  exact ⟨acc, h2, lt_size (by rw [Paired.len h3]; omega), Same.put h1 hD, _, upd_same, Paired.snoc (hx _ _ _ _ _ h2 sx hy) (Paired.mapP h3 fun _ _ q => hx _ _ _ _ _ h2 sx q)⟩
end
/-- all that is no list -/
def SameNL (H H' : Hp) : Prop := ∀ b o, (∀ l, o ≠ .lst l) → H b = some o → H' b = some o
theorem SameNL.of {H H' : Hp} {D : Addr} {l : List V} (h : H D = some (.lst l)) (x : SameX D H H') : SameNL H H' := fun b o no e => x b o (fun z => by rw [z, h] at e; exact no l (Option.some.inj e).symm) e
theorem StL.nl {H H' : Hp} {us : List V} {l : List Statement} (x : SameNL H H') (h : StL H us l) : StL H' us l := Paired.mapP h fun _ _ ⟨a, e, q⟩ => ⟨a, e, x _ _ (fun _ z => by cases z) q⟩
theorem KeyV.nl {H H' : Hp} {v : V} {k : Vbjbaj.Key} (x : SameNL H H') (h : KeyV H v k) : KeyV H' v k := by
  obtain ⟨a, tt, st, us, h1, h2, h3, h4, h5⟩ := h
  exact ⟨a, tt, st, us, h1, x _ _ (fun _ z => by cases z) h2, x _ _ (fun _ z => by cases z) h3, x _ _ (fun _ z => by cases z) h4, h5.nl x⟩

/-! ### locks -/
/-- all that is no dict -/
def SameND (H H' : Hp) : Prop := ∀ b o, (∀ l, o ≠ .dK l) → H b = some o → H' b = some o
theorem SameND.lock {H : Hp} {d : Addr} {kvs : List (Key × V)} {o : HO} (h : H d = some (.dK kvs)) : SameND H (upd H d o) := fun b u no e => by
  rw [upd_ne fun z => by rw [z, h] at e; exact no kvs (Option.some.inj e).symm]
  exact e
theorem StL.nd {H H' : Hp} {us : List V} {l : List Statement} (x : SameND H H') (h : StL H us l) : StL H' us l := Paired.mapP h fun _ _ ⟨a, e, q⟩ => ⟨a, e, x _ _ (fun _ z => by cases z) q⟩
theorem KeyV.nd {H H' : Hp} {v : V} {k : Vbjbaj.Key} (x : SameND H H') (h : KeyV H v k) : KeyV H' v k := by
  obtain ⟨a, tt, st, us, h1, h2, h3, h4, h5⟩ := h
  exact ⟨a, tt, st, us, h1, x _ _ (fun _ z => by cases z) h2, x _ _ (fun _ z => by cases z) h3, x _ _ (fun _ z => by cases z) h4, h5.nd x⟩
theorem FileAt.nd {C : Addr} {H H' : Hp} {a : Addr} {x : File} (e : SameND H H') (h : FileAt C H a x) : FileAt C H' a x := by
  obtain ⟨dx, it, st, tt, ss, h1, h2, h3, h4, h5⟩ := h
  exact ⟨dx, it, st, tt, ss, e _ _ (fun _ z => by cases z) h1, e _ _ (fun _ z => by cases z) h2, e _ _ (fun _ z => by cases z) h3, h4.nd e, e _ _ (fun _ z => by cases z) h5⟩
theorem KF.nd' {C : Addr} {H H' : Hp} {kvs : List (Key × V)} {p : Project} (e : SameND H H') (h : KF C H kvs p) : KF C H' kvs p :=
  ⟨h.nd, h.ks, fun f x q => by obtain ⟨a, h1, h2⟩ := h.at_ f x q; exact ⟨a, h1, h2.nd e⟩⟩
theorem FilesAt.lock {C : Addr} {H : Hp} {d d' : Addr} {p : Project} {kvs : List (Key × V)} {od : Obj} (hd : H d' = some (.dK kvs)) (h : FilesAt C H d p) : FilesAt C (upd H d' (.frz od (.dK kvs))) d p := by
  obtain ⟨kvs', h1, h2⟩ := h
  have x : SameND H (upd H d' (.frz od (.dK kvs))) := SameND.lock hd
  refine ⟨kvs', ?_, h2.nd' x⟩
  by_cases e : d = d'
  · subst e
    rcases h1 with h1 | ⟨o, h1⟩
    · rw [hd] at h1
      cases h1
      exact .inr ⟨od, upd_same⟩
    · rw [hd] at h1
      cases h1
  · rcases h1 with h1 | ⟨o, h1⟩
    · exact .inl (by rw [upd_ne e]; exact h1)
    · exact .inr ⟨o, by rw [upd_ne e]; exact h1⟩
theorem Same.unlock {H H' : Hp} {d : Addr} {u f : HO} (s : Same (upd H d f) H') (h : H d = some u) : Same H (upd H' d u) := fun b o e => by
  by_cases c : b = d
  · subst c
    rw [upd_same, ← h, e]
  · rw [upd_ne c]
    exact s b o (by rw [upd_ne c]; exact e)

/-! ### a dict of keys -/
structure KDict (H : Hp) (kvs : List (Key × V)) (os : List Nat) (ko : Nat → Vbjbaj.Key) : Prop where
  ks : DKs kvs os
  nd : os.Nodup
  at_ : ∀ g, g ∈ os → ∃ v, valV kvs (.inl (g : Int)) = some v ∧ KeyV H v (ko g)
theorem KDict.nd' {H H' : Hp} {kvs : List (Key × V)} {os : List Nat} {ko : Nat → Vbjbaj.Key} (x : SameND H H') (h : KDict H kvs os ko) : KDict H' kvs os ko := ⟨h.ks, h.nd, fun g hg => by obtain ⟨v, h1, h2⟩ := h.at_ g hg; exact ⟨v, h1, h2.nd x⟩⟩
theorem KDict.same {H H' : Hp} {kvs : List (Key × V)} {os : List Nat} {ko : Nat → Vbjbaj.Key} (x : Same H H') (h : KDict H kvs os ko) : KDict H' kvs os ko := ⟨h.ks, h.nd, fun g hg => by obtain ⟨v, h1, h2⟩ := h.at_ g hg; exact ⟨v, h1, h2.same x⟩⟩
section
variable {P : Program} {w : World} {K : PySem.W.Frag} {mg : Str → Option Value} {base : Heap} {A : Ad}
def sp_is_enough (A : Ad) : Sp := fun vs H Q _ => ∃ (fd kd : Addr) (f t : Nat) (q : Project) (kvs : List (Key × V)) (os : List Nat) (ko : Nat → Vbjbaj.Key), vs = [.ref fd, .ref kd, .int (f : Int)] ∧ PWf t q ∧ FilesAt A.File H fd q ∧ H kd = some (.dK kvs) ∧ KDict H kvs os ko ∧ f ∈ os ∧
  (∀ g ∈ os, Vbjbaj.doesExist q g = true) ∧ ∀ H', Same H H' → Q (.bl (decide (∀ g ∈ os, Vbjbaj.keyOf q g = some (ko g)))) H'
theorem ok_is_enough (T : Txt K mg A) (C_key : Cal P w K mg base CX0 6 "key" ["files", "number"] (sp_key A)) {f : Addr} {fd : FuncData} (F : Fun K "is_enough" "is_enough" s_is_enough f fd) : FnOk P w K mg base CX0 7 f fd ["files", "keys", "number"] (sp_is_enough A) := by
  refine F.ok sc_is_enough (fun vs H Q E h => by obtain ⟨fd, kd, f, t, q, kvs, os, ko, rfl, _⟩ := h; rfl) (fun cdv A' outer s H vs Q E hr h => ?_)
  have hu := hu_of hr
  have hu64 := hu64_of hr
  refine ⟨_, (pss_cons (ps_if (pt_cmpR (op_neD hu64) (pe_cal C_key (hr.mono (by decide)) pass0 (pa_cons (pv 0) (pa_cons (pv 2) pa_nil))) (pe_dget hu (pv 1) (pv 2) (fun _ _ => rfl)) (nomark _)) (pss_one (ps_ret pe_bl)) pss_nil)
(pss_cons (ps_lock (ps_for PassesOwn.never rfl (pi_keys (pv 1)) (pg_name (i := 3) sc_is_enough.nd rfl (Or.inl rfl)) (pss_one (ps_if (pt_cmpR (op_neD hu64) (pe_cal C_key (hr.mono (by decide)) pass0 (pa_cons (pv 0) (pa_cons (pv 3) pa_nil))) (pe_dget hu (pv 1) (pv 3) (fun _ _ => rfl)) (nomark _)) (pss_one (ps_ret pe_bl)) pss_nil))))
(pss_one (ps_ret pe_bl)))), ?_⟩
  obtain ⟨fd, kd, f, t, q, kvs, os, ko, rfl, pw, fa, hkd, kdc, hf, hex, k⟩ := h
  have look : ∀ g ∈ os, ∃ x, Vbjbaj.keyOf q g = some ⟨x, Vbjbaj.relevantOf q g⟩ := fun g hg => by
    obtain ⟨x, hx⟩ := doesExist_iff.mp (hex g hg)
    exact ⟨x.text, key_some hx⟩
  obtain ⟨tx, hk0⟩ := look f hf
  refine ⟨_, rfl, _, rfl, fd, f, t, q, _, rfl, hk0, pw, fa, fun H1 r s1 kv1 => ?_⟩
  obtain ⟨v0, e0, kv0⟩ := kdc.at_ f hf
  refine ⟨_, rfl, _, rfl, kd, v0, rfl, .inl ⟨kvs, .inl (f : Int), .inl (s1 _ _ hkd), rfl, e0.symm⟩, keyD _, keyD _, dp_key kv1, dp_key (kv0.same s1), key_shaped _, key_shaped _, _, rfl, ?_⟩
  rw [eqv_key]
  refine ite2 (fun c => ?_) (fun c => ?_)
  · have no : ¬ ∀ g ∈ os, Vbjbaj.keyOf q g = some (ko g) := fun h => by
      have := h f hf
      rw [hk0] at this
      rw [Option.some.inj this] at c
      simp at c
    have := k H1 s1
    rw [decide_eq_false no] at this
    exact this
  · have eq0 : Vbjbaj.keyOf q f = some (ko f) := by
      rw [hk0]
      have : (⟨tx, Vbjbaj.relevantOf q f⟩ : Vbjbaj.Key) = ko f := by simpa using c
      rw [this]
    have hkd1 := s1 _ _ hkd
    refine ⟨kd, .dK kvs, hkd1, True.intro, fun od => ?_⟩
    have xl : SameND H1 (upd H1 kd (.frz od (.dK kvs))) := SameND.lock hkd1
    have fa1 := (fa.same s1).lock (od := od) hkd1
    have kd1 := (kdc.same s1).nd' xl
    have hl1 : upd H1 kd (.frz od (.dK kvs)) kd = some (.frz od (.dK kvs)) := upd_same
    refine ⟨_, rfl, kd, od, rfl, .inl ⟨kvs, hl1, ?_⟩⟩
    refine for_it (walk_keys (d := kd) (o := od) (kvs := kvs)) (fun i σ H' => ∃ x3 : Option V, σ = [some (.ref fd), some (.ref kd), some (.int (f : Int)), x3] ∧ Same (upd H1 kd (.frz od (.dK kvs))) H' ∧ ∀ g ∈ os.take i, Vbjbaj.keyOf q g = some (ko g))
      ⟨none, rfl, Same.refl _, fun g hg => by simp at hg⟩ (fun i σ H' _ ⟨_, _, s, _⟩ => s _ _ hl1) ?_ ?_
    · rintro i y σ H2 H3 hi ⟨x3, rfl, s2, hall⟩ ⟨rfl, kk, v, hkv, rfl⟩
      obtain ⟨n, hn, rfl⟩ := keys_at' kd1.ks hkv
      have nm : n ∈ os := List.mem_of_getElem? hn
      obtain ⟨tn, hkn⟩ := look n nm
      obtain ⟨vn, en, kvn⟩ := kd1.at_ n nm
      refine ⟨_, rfl, _, rfl, fd, n, t, q, _, rfl, hkn, pw, fa1.same s2, fun H4 r4 s4 kv4 => ?_⟩
      refine ⟨_, rfl, _, rfl, kd, vn, rfl, .inl ⟨kvs, .inl (n : Int), .inr ⟨od, (s2.trans s4) _ _ hl1⟩, rfl, en.symm⟩, keyD _, keyD _, dp_key kv4, dp_key (kvn.same (s2.trans s4)), key_shaped _, key_shaped _, _, rfl, ?_⟩
      rw [eqv_key]
      refine ite2 (fun c => ?_) (fun c => ?_)
      · have no : ¬ ∀ g ∈ os, Vbjbaj.keyOf q g = some (ko g) := fun h => by
          have := h n nm
          rw [hkn] at this
          rw [Option.some.inj this] at c
          simp at c
        refine ⟨(s2.trans s4) _ _ hl1, ?_⟩
        have := k (upd H4 kd (.dK kvs)) (s1.trans (Same.unlock (s2.trans s4) hkd1))
        rw [decide_eq_false no] at this
        exact this
      · refine ⟨_, rfl, s2.trans s4, fun g hg => ?_⟩
        rw [take_succ' hn] at hg
        rcases List.mem_append.mp hg with z | z
        · exact hall g z
        · rw [List.mem_singleton.mp z, hkn]
          have : (⟨tn, Vbjbaj.relevantOf q n⟩ : Vbjbaj.Key) = ko n := by simpa using c
          rw [this]
    · rintro σ H2 ⟨x3, rfl, s2, hall⟩
      rw [kd1.ks.len, List.take_length] at hall
      refine ⟨s2 _ _ hl1, ?_⟩
      have := k (upd H2 kd (.dK kvs)) (s1.trans (Same.unlock s2 hkd1))
      rw [decide_eq_true hall] at this
      exact this
end
end Sf
/-! W12: needed. -/
namespace Sf
open PySem PySem.Spec PyProof.Rows L2
open Vbjbaj (Statement File Project)
/-- the numbers of the files that are there -/
def exs (p : Project) : List Nat := (List.range 10).filter (Vbjbaj.doesExist p)
theorem exs_up (p : Project) : (exs p).Pairwise (· < ·) := List.Pairwise.filter _ (range_up 10)
theorem exs_len (p : Project) : (exs p).length ≤ 10 := Nat.le_trans (List.length_filter_le _ _) (by simp)
theorem mem_exs {t : Nat} {p : Project} (w : PWf t p) {f : Nat} : f ∈ exs p ↔ Vbjbaj.doesExist p f = true := by
  unfold exs
  rw [List.mem_filter, List.mem_range]
  exact ⟨fun h => h.2, fun h => ⟨w.lt h, h⟩⟩
/-- sorted(files) -/
theorem KF.sorted {C : Addr} {H : Hp} {kvs : List (Key × V)} {t : Nat} {p : Project} (w : PWf t p) (h : KF C H kvs p) : ∃ ks : List Int, kvs.map (·.1) = ks.map Sum.inl ∧ ks.length < 64 ∧ ∀ ys : List Int, ys.Perm ks → ys.Pairwise (· ≤ ·) → ys.map V.int = nV (exs p) := by
  obtain ⟨ks, ek, mk⟩ := h.ks
  have nks : ks.Nodup := by
    have := h.nd
    rw [ek] at this
    exact nodup_inl this
  have mx : ∀ x, x ∈ ks ↔ x ∈ exs p := fun x => by rw [mk, mem_exs w]; rfl
  have l10 : ks.length ≤ 10 := lt_of_nodup 10 _ nks fun g hg => w.lt ((mk g).mp hg)
  refine ⟨ks.map fun n : Nat => (n : Int), by rw [ek, List.map_map]; rfl, by rw [List.length_map]; omega, fun ys hp hs => sorted_up hp hs nks (exs_up p) mx⟩
theorem mergeK_app : ∀ (kvs acc : List (Key × V)), (∀ kv ∈ kvs, kv.1 ∉ acc.map (·.1)) → (kvs.map (·.1)).Nodup → mergeK acc kvs = acc ++ kvs
  | [], acc, _, _ => by simp [mergeK]
  | kv :: kvs, acc, h, nd => by
    rw [List.map_cons, List.nodup_cons] at nd
    have e : putK acc kv.1 kv.2 = acc ++ [kv] := putK_new _ (valV_none_of (h kv List.mem_cons_self))
    have : mergeK acc (kv :: kvs) = mergeK (putK acc kv.1 kv.2) kvs := rfl
    rw [this, e, mergeK_app kvs (acc ++ [kv]) (fun kv' hkv' => ?_) nd.2]
    · simp
    · rw [List.map_append, List.mem_append]
      rintro (z | z)
      · exact h kv' (List.mem_cons_of_mem _ hkv') z
      · simp at z
        exact nd.1 (z ▸ List.mem_map.mpr ⟨kv', hkv', rfl⟩)
theorem mergeK_self {kvs : List (Key × V)} (nd : (kvs.map (·.1)).Nodup) : mergeK [] kvs = kvs := by
  rw [mergeK_app kvs [] (fun _ _ => by simp) nd]
  rfl
/-- an item (g, its key) -/
def KIt (ko : Nat → Vbjbaj.Key) (H : Hp) (v : V) (g : Nat) : Prop := ∃ b kv, v = .ref b ∧ H b = some (.tup [.int (g : Int), kv]) ∧ KeyV H kv (ko g)
theorem KIt.same {ko : Nat → Vbjbaj.Key} (H H' : Hp) (v : V) (a : Nat) (e : Same H H') (h : KIt ko H v a) : KIt ko H' v a := by
  obtain ⟨b, kv, h1, h2, h3⟩ := h
  exact ⟨b, kv, h1, e _ _ h2, h3.same e⟩
theorem KIt.sx {ko : Nat → Vbjbaj.Key} {D : Addr} (H H' : Hp) (v : V) (a : Nat) (l : List V) (hD : H D = some (.lst l)) (x : SameX D H H') (h : KIt ko H v a) : KIt ko H' v a := by
  obtain ⟨b, kv, h1, h2, h3⟩ := h
  have nl := SameNL.of hD x
  exact ⟨b, kv, h1, nl _ _ (fun _ z => by cases z) h2, h3.nl nl⟩
theorem kits {K : PySem.W.Frag} {ko : Nat → Vbjbaj.Key} {H : Hp} : ∀ {acc : List V} {os : List Nat}, Paired (KIt ko H) acc os → ∃ (ps : List Addr) (kvs : List (Key × V)), acc = ps.map V.ref ∧ Paired (fun p (kv : Key × V) => SqT K H p [kV kv.1, kv.2]) ps kvs ∧ DKs kvs os ∧ Paired (fun (kv : Key × V) g => kv.1 = .inl ((g : Nat) : Int) ∧ KeyV H kv.2 (ko g)) kvs os
  | _, _, .nil => ⟨[], [], rfl, .nil, rfl, .nil⟩
  | _, _, .cons ⟨b, kv, h1, h2, h3⟩ t => by
    obtain ⟨ps, kvs, e1, e2, e3, e4⟩ := kits (K := K) t
    refine ⟨b :: ps, (.inl _, kv) :: kvs, by rw [h1, e1]; rfl, .cons (SqT.of h2) e2, ?_, .cons ⟨rfl, h3⟩ e4⟩
    unfold DKs at e3 ⊢
    rw [List.map_cons, e3]
    rfl
theorem kvs_get {H : Hp} {ko : Nat → Vbjbaj.Key} : ∀ {kvs : List (Key × V)} {os : List Nat}, Paired (fun (kv : Key × V) g => kv.1 = .inl ((g : Nat) : Int) ∧ KeyV H kv.2 (ko g)) kvs os → os.Nodup → ∀ g, g ∈ os → ∃ v, valV kvs (.inl (g : Int)) = some v ∧ KeyV H v (ko g)
  | _, _, .nil, _, g, hg => by simp at hg
  | _, _, @Paired.cons _ _ _ kv n kvs os h t, nd, g, hg => by
    rw [List.nodup_cons] at nd
    by_cases c : g = n
    · subst c
      exact ⟨kv.2, valV_pos h.1, h.2⟩
    · obtain ⟨v, h1, h2⟩ := kvs_get t nd.2 g ((List.mem_cons.mp hg).resolve_left c)
      refine ⟨v, ?_, h2⟩
      rw [valV_neg fun z => c ?_]
      · exact h1
      · rw [h.1] at z
        have := Sum.inl.inj z
        omega
section
variable {P : Program} {w : World} {K : PySem.W.Frag} {mg : Str → Option Value} {base : Heap} {A : Ad}
def sp_needed (K : PySem.W.Frag) (A : Ad) : Sp := fun vs H Q _ => ∃ (d : Addr) (f t : Nat) (p : Project) (x : File), vs = [.ref d, .int (f : Int)] ∧ Vbjbaj.fileAt p f = some x ∧ PWf t p ∧ FilesAt A.File H d p ∧
  ∀ H' b, Same H H' → H' b = some (.tup (nV (Vbjbaj.neededImports p f))) → Q (.ref b) H'
theorem ok_needed (T : Txt K mg A) (C_seen : Cal P w K mg base CX0 3 "seen" ["files", "number"] (sp_seen A)) (C_key : Cal P w K mg base CX0 6 "key" ["files", "number"] (sp_key A)) (C_rows_of : Cal P w K mg base CX0 11 "rows_of" ["items", "size"] (sp_rows_of K 11))
    (C_with_imports : Cal P w K mg base CX0 3 "with_imports" ["files", "number", "imports"] (sp_with_imports A)) (C_is_enough : Cal P w K mg base CX0 7 "is_enough" ["files", "keys", "number"] (sp_is_enough A))
    {f : Addr} {fd : FuncData} (F : Fun K "needed" "needed" s_needed f fd) : FnOk P w K mg base CX0 12 f fd ["files", "number"] (sp_needed K A) := by
  refine F.ok sc_needed (fun vs H Q E h => by obtain ⟨d, f, t, p, x, rfl, _⟩ := h; rfl) (fun cdv A' outer s H vs Q E hr h => ?_)
  have hu := hu_of hr
  refine ⟨_, (pss_cons (ps_setLc (i := 2) (y := "others") (own := [("other", 8)]) (g := (gName 8)) (tt := (tTest (tOp (rIn K false) (tVar 1) (tCall (sp_seen A) [] E0 (tCons (tVar 0) (tCons (tVar 8) tNil)))))) (te := (tVar 8)) (by rfl) sc_needed.nd rfl rfl (sw_true rfl rfl rfl (by decide +kernel)) (pi_list (pe_callB (call_sortedDI rfl) (by rfl) T.b_sorted (by decide +kernel) (pa_cons (pv 0) pa_nil))) (blkOk_by (own := [("other", 8)]) (N := N_needed) (sc := defScope s_needed) (by decide +kernel)) (fun _ _ _ _ _ => (pg_name (i := 8) sc_needed.nd rfl (Or.inl rfl))) (fun _ _ _ _ _ => pts_one (pt_cmpR op_in_seq (pv 1) (pe_cal C_seen (hr.mono (by decide)) pass0 (pa_cons (pv 0) (pa_cons (pv 8) pa_nil))) (by rfl))) (fun _ _ _ _ _ => (pv 8)))
(pss_cons (ps_set (i := 3) sc_needed.nd rfl (Or.inl rfl) (pe_callTy (call_dictP rfl) (by rfl) T.b_dict (by decide +kernel) (pa_cons (pe_lc (own := [("other", 8)]) (g := (gName 8)) (tt := tYes) (te := (tTup (tCons (tVar 8) (tCons (tCall (sp_key A) [] E0 (tCons (tVar 0) (tCons (tVar 8) tNil))) tNil)))) (by rfl) sc_needed.nd (pi_list (pv 2)) (blkOk_by (own := [("other", 8)]) (N := N_needed) (sc := defScope s_needed) (by decide +kernel)) (fun _ _ _ _ _ => (pg_name (i := 8) sc_needed.nd rfl (Or.inl rfl))) (fun _ _ _ _ _ => pts_nil) (fun _ _ _ _ _ => (pe_tup (pa_cons (pv 8) (pa_cons (pe_cal C_key (hr.mono (by decide)) pass0 (pa_cons (pv 0) (pa_cons (pv 8) pa_nil))) pa_nil))))) pa_nil)))
(pss_cons (ps_set (i := 4) sc_needed.nd rfl (Or.inl rfl) (pe_fld (pe_dget hu (pv 0) (pv 1) (fun _ _ => rfl)) rfl))
(pss_cons (ps_for PassesOwn.never rfl (pi_range1 rfl T.b_range (pa_cons (pe_callB call_len_seq (by rfl) T.b_len (by decide +kernel) (pa_cons (pv 4) pa_nil)) pa_nil)) (pg_name (i := 5) sc_needed.nd rfl (Or.inl rfl)) (pss_one (ps_for PassesOwn.never rfl (pi_list (pe_cal C_rows_of (hr.mono (by decide)) pass0 (pa_cons (pv 4) (pa_cons (pv 5) pa_nil)))) (pg_name (i := 6) sc_needed.nd rfl (Or.inl rfl)) (pss_cons (ps_set (i := 7) sc_needed.nd rfl (Or.inl rfl) (pe_cal C_with_imports (hr.mono (by decide)) pass0 (pa_cons (pv 0) (pa_cons (pv 1) (pa_cons (pv 6) pa_nil)))))
(pss_one (ps_if (pt_val (pe_cal C_is_enough (hr.mono (by decide)) pass0 (pa_cons (pv 7) (pa_cons (pv 3) (pa_cons (pv 1) pa_nil))))) (pss_one (ps_ret (pv 6))) pss_nil))))))
(pss_one (ps_ret (pv 4))))))), ?_⟩
  obtain ⟨d, f, t, p, x, rfl, hx, pw, fa, k⟩ := h
  have hf : f < 10 := pw.lt (doesExist_iff.mpr ⟨x, hx⟩)
  obtain ⟨kvs, rd, kf⟩ := id fa
  obtain ⟨ks, ek, k64, ksort⟩ := kf.sorted pw
  refine ⟨_, rfl, d, kvs, ks, rfl, rd, ek, k64, fun ys r0 hperm hsort hr0 => ?_⟩
  rw [ksort ys hperm hsort]
  have s0 : Same H (upd H r0 (.lst (nV (exs p)))) := Same.new hr0
  have e0 : upd H r0 (.lst (nV (exs p))) r0 = some (.lst (nV (exs p))) := upd_same
  generalize upd H r0 (.lst (nV (exs p))) = H0 at s0 e0
  have l10 := exs_len p
  -- others
  refine ⟨r0, rfl, ⟨_, SqL.of e0⟩, fun D hD => lc_list (K := K) (a := r0) (xs := nV (exs p)) (LcP H0 D (Fil (exs p) (fun g => decide (f ∈ Vbjbaj.visible p g)) fun n : Nat => V.int (n : Int))) (LcP.start hD rfl) (fun i H' _ pv => SqL.of (pv.1 _ _ e0)) (fun i y H1 hy pv => ?_) (fun H1 pv => ?_)⟩
  · obtain ⟨g, hg, rfl⟩ := nV_at hy
    have gx := (mem_exs pw).mp (List.mem_of_getElem? hg)
    refine ⟨rfl, _, rfl, _, rfl, _, rfl, d, g, t, p, rfl, pw.lt gx, pw, fa.same (s0.trans pv.1), fun H2 r2 s2 _ hr2 => ?_⟩
    refine ⟨r2, _, rfl, .inl (SqL.of hr2), rfl, nV_flat _, _, rfl, ?_⟩
    show (if inV (V.int (f : Int)) (nV (Vbjbaj.visible p g)) = true then _ else _)
    rw [inV_nV]
    refine ite2 (fun c => ⟨_, rfl, ?_⟩) (fun c => ?_)
    · exact pv.push hD s2 (Fil.yes hg c) (Fil.lt (by omega))
    · exact pv.skip s2 (Fil.no hg (by simpa using c))
  obtain ⟨s1, e1⟩ := pv
  rw [nV_len, Fil.all] at e1
  generalize eos : (exs p).filter (fun g => decide (f ∈ Vbjbaj.visible p g)) = os at e1
  have los : os.length ≤ 10 := by rw [← eos]; exact Nat.le_trans (List.length_filter_le _ _) l10
  have nos : os.Nodup := by rw [← eos]; exact ((exs_up p).imp fun h => Nat.ne_of_lt h).filter _
  have mos : ∀ g, g ∈ os ↔ Vbjbaj.doesExist p g = true ∧ f ∈ Vbjbaj.reachedFrom p g := fun g => by
    rw [← eos, List.mem_filter, mem_exs pw, decide_eq_true_eq]
    unfold Vbjbaj.visible
    rw [List.mem_filter]
    constructor
    · exact fun h => ⟨h.1, h.2.1⟩
    · exact fun h => ⟨h.1, h.2, doesExist_iff.mpr ⟨x, hx⟩⟩
  have s01 := s0.trans s1
  have ko : ∃ ko : Nat → Vbjbaj.Key, ∀ g, Vbjbaj.doesExist p g = true → Vbjbaj.keyOf p g = some (ko g) := ⟨fun g => (Vbjbaj.keyOf p g).getD ⟨[], []⟩, fun g hg => by
    obtain ⟨y, hy⟩ := doesExist_iff.mp hg
    show Vbjbaj.keyOf p g = some ((Vbjbaj.keyOf p g).getD ⟨[], []⟩)
    rw [key_some hy]
    rfl⟩
  obtain ⟨ko, hko⟩ := ko
  -- keys
  refine ⟨_, rfl, D, rfl, ⟨_, SqL.of e1⟩, fun D2 hD2 => lc_list (K := K) (a := D) (xs := nV os) (fun i H' => LcR (KIt ko) H1 D2 (os.take i) H') (LcR.start hD2) (fun i H' _ pv => SqL.of (pv.1 _ _ e1)) (fun i y H2 hy pv => ?_) (fun H2 pv => ?_)⟩
  · obtain ⟨g, hg, rfl⟩ := nV_at hy
    have gx := ((mos g).mp (List.mem_of_getElem? hg)).1
    refine ⟨rfl, _, rfl, _, rfl, _, rfl, d, g, t, p, _, rfl, hko g gx, pw, fa.same (s01.trans pv.1), fun H3 r3 s3 kv3 => ?_⟩
    refine ⟨by show 2 ≤ sizeLine; decide, fun q hq => ?_⟩
    have s4 : Same H3 (upd H3 q (.tup [.int (g : Int), .ref r3])) := Same.new hq
    have := pv.push KIt.same KIt.sx hD2 (s3.trans s4) (y := .ref q) (a := g) ⟨q, .ref r3, rfl, upd_same, kv3.same s4⟩ (by rw [List.length_take]; omega)
    rw [take_succ' hg]
    exact this
  obtain ⟨s2, acc, hacc, racc⟩ := pv
  rw [nV_len, List.take_length] at racc
  obtain ⟨ps, kk, rfl, rps, dks, rks⟩ := kits (K := K) racc
  have ndk : (kk.map (·.1)).Nodup := by rw [dks]; exact inl_nodup nos
  refine ⟨D2, ps, kk, rfl, SqL.of hacc, rps, fun kd hkd => ?_⟩
  rw [mergeK_self ndk]
  have s3 : Same H2 (upd H2 kd (.dK kk)) := Same.new hkd
  have e3 : upd H2 kd (.dK kk) kd = some (.dK kk) := upd_same
  have kdc : KDict (upd H2 kd (.dK kk)) kk os ko := ⟨dks, nos, fun g hg => by obtain ⟨v, h1, h2⟩ := kvs_get rks nos g hg; exact ⟨v, h1, h2.same s3⟩⟩
  have sk : Same H (upd H2 kd (.dK kk)) := (s01.trans s2).trans s3
  generalize upd H2 kd (.dK kk) = Hk at s3 e3 kdc sk
  -- imports
  obtain ⟨a, ga, dx, it, st, tt, ss, h1, h2, h3, h4, h5⟩ := (fa.same sk).get hx
  refine ⟨_, rfl, _, rfl, d, _, rfl, ga, a, A.File, dx, _, _, rfl, h1, T.clF, T.nF_imports, fileF_imports it st tt, ?_⟩
  have imp : Vbjbaj.importsOf p f = x.imports := importsOf_some hx
  have li : x.imports.length ≤ 10 := by have := (pw.graph).size f; rwa [imp] at this
  have hall : enough p f (Vbjbaj.importsOf p f) = true := by rw [imp, enough_iff]; intro g _; rw [withImports_same hx]
  have need := needed_eq hall
  rw [imp] at need
  refine ⟨_, rfl, it, _, rfl, .inr (SqT.of h2), _, rfl, by rw [nV_len]; omega, by rw [nV_len]; omega, ?_⟩
  rw [nV_len, Int.toNat_natCast]
  refine for_range (lo := 0) (n := x.imports.length) (fun i σ H' => ∃ (x5 x6 x7 : Option V), σ = [some (.ref d), some (.int (f : Int)), some (.ref D), some (.ref kd), some (.ref it), x5, x6, x7, none] ∧ Same Hk H' ∧ ∀ j, j < i → (Vbjbaj.partsOf j x.imports).find? (enough p f) = none)
    ⟨none, none, none, rfl, Same.refl _, fun j hj => by omega⟩ ?_ ?_
  · rintro i σ H3 hi ⟨x5, x6, x7, rfl, s4, hno⟩
    have e0 : (0 : Int) + (i : Int) = (i : Int) := by omega
    rw [e0]
    refine ⟨_, rfl, _, rfl, it, x.imports, i, rfl, SqT.of (s4 _ _ h2), li, by omega, fun H4 r4 us s5 _ hr4 hus => ?_⟩
    have lus : us.length = (Vbjbaj.partsOf i x.imports).length := Paired.len hus
    refine ⟨r4, rfl, ⟨_, SqL.of hr4⟩, for_list (K := K) (a := r4) (xs := us) (fun j σ H' => ∃ (x6 x7 : Option V), σ = [some (.ref d), some (.int (f : Int)), some (.ref D), some (.ref kd), some (.ref it), some (.int (i : Int)), x6, x7, none] ∧ Same H4 H' ∧ ∀ m ∈ (Vbjbaj.partsOf i x.imports).take j, enough p f m = false)
      ⟨x6, x7, rfl, Same.refl _, fun m hm => by simp at hm⟩ (fun j σ H' _ ⟨_, _, _, s, _⟩ => SqL.of (s _ _ hr4)) ?_ ?_⟩
    · rintro j y σ H5 hy ⟨y6, y7, rfl, s6, hno2⟩
      obtain ⟨m, hm, b, rfl, hb⟩ := tupV_at (Paired.mapP hus fun _ _ q => q.same s6) hy
      have msub := (parts_sub _ _ _ (List.mem_of_getElem? hm)).1
      have sk5 := (s4.trans s5).trans s6
      refine ⟨_, rfl, _, rfl, _, rfl, d, b, f, p, m, x, rfl, hx, pw.len, fa.same (sk.trans sk5), hb, fun H6 r6 kv6 s7 _ hr6 kf6 => ?_⟩
      have sk6 := sk5.trans s7
      refine ⟨_, rfl, _, rfl, _, rfl, r6, kd, f, t, Vbjbaj.withImports p f m, kk, os, ko, rfl, pw.withImports hx msub, ⟨kv6, .inl hr6, kf6⟩, sk6 _ _ e3, kdc.same sk6, (mos f).mpr ⟨doesExist_iff.mpr ⟨x, hx⟩, (mem_reached pw.graph hf).mpr Rch.refl⟩, fun g hg => ?_, fun H7 s8 => ?_⟩
      · obtain ⟨y, hy⟩ := doesExist_iff.mp ((mos g).mp hg).1
        rw [doesExist_iff, fileAt_with hx]
        by_cases c : g = f
        · rw [if_pos c]; exact ⟨_, rfl⟩
        · rw [if_neg c]; exact ⟨y, hy⟩
      · have en : enough p f m = decide (∀ g ∈ os, Vbjbaj.keyOf (Vbjbaj.withImports p f m) g = some (ko g)) := by
          rw [Bool.eq_iff_iff, decide_eq_true_eq, enough_of pw hx msub os mos]
          constructor
          · intro h g hg; rw [h g hg, hko g ((mos g).mp hg).1]
          · intro h g hg; rw [h g hg, hko g ((mos g).mp hg).1]
        refine ⟨_, rfl, ?_⟩
        rw [← en]
        refine ite2 (fun c => ?_) (fun c => ?_)
        · refine ⟨_, rfl, k H7 b ((sk.trans sk6).trans s8) ?_⟩
          have fnd : (Vbjbaj.partsOf i x.imports).find? (enough p f) = some m := by
            rw [List.find?_eq_some_iff_getElem]
            obtain ⟨hjl, ej⟩ := List.getElem?_eq_some_iff.mp hm
            refine ⟨c, j, hjl, ej, fun l hl => ?_⟩
            have := hno2 _ (List.mem_take_iff_getElem.mpr ⟨l, by omega, rfl⟩)
            rw [this]; rfl
          rw [need, findSome_some _ _ i m hno hi fnd]
          exact (s7.trans s8) _ _ hb
        · refine ⟨_, _, rfl, (s6.trans s7).trans s8, fun m' hm' => ?_⟩
          rw [take_succ' hm] at hm'
          rcases List.mem_append.mp hm' with z | z
          · exact hno2 m' z
          · rw [List.mem_singleton.mp z]
            simpa using c
    · rintro σ H5 ⟨y6, y7, rfl, s6, hno2⟩
      rw [lus, List.take_length] at hno2
      refine ⟨_, _, _, rfl, (s4.trans s5).trans s6, fun j hj => ?_⟩
      by_cases c : j = i
      · rw [c, List.find?_eq_none]
        intro m hm
        rw [hno2 m hm]
        decide
      · exact hno j (by omega)
  · rintro σ H3 ⟨x5, x6, x7, rfl, s4, hno⟩
    refine ⟨_, rfl, k H3 it (sk.trans s4) ?_⟩
    rw [need, findSome_none _ _ hno]
    exact s4 _ _ h2
end
end Sf
/-! W13: flow_path. -/
namespace Sf
open PySem PySem.Spec PyProof.Rows L2
open Vbjbaj (Statement File Project)
theorem valG_has {κ : Type} [DecidableEq κ] {k : κ} : ∀ {kvs : List (κ × V)}, (valV kvs k).isSome = decide (k ∈ kvs.map (·.1))
  | [] => rfl
  | kv :: kvs => by
    by_cases c : kv.1 = k
    · rw [valV_pos c]; simp [c]
    · rw [valV_neg c, valG_has (kvs := kvs)]
      simp [Ne.symm c]
def prKey (e : Pr) : List Key := [.inl (e.1 : Int), .inl (e.2 : Int)]
theorem prKey_inj {a b : Pr} (h : prKey a = prKey b) : a = b := by
  obtain ⟨a1, a2⟩ := a
  obtain ⟨b1, b2⟩ := b
  unfold prKey at h
  have h1 := Sum.inl.inj (List.cons.inj h).1
  have h2 := Sum.inl.inj (List.cons.inj (List.cons.inj h).2).1
  have h1' : (a1 : Int) = (b1 : Int) := h1
  have h2' : (a2 : Int) = (b2 : Int) := h2
  have e1 : a1 = b1 := by omega
  have e2 : a2 = b2 := by omega
  rw [e1, e2]
theorem prKey_mem {U : List Pr} {e : Pr} : prKey e ∈ U.map prKey ↔ e ∈ U := by
  constructor
  · intro h
    obtain ⟨e', h1, h2⟩ := List.mem_map.mp h
    exact prKey_inj h2 ▸ h1
  · exact fun h => List.mem_map.mpr ⟨e, h, rfl⟩
/-- the used ones -/
def UD (H : Hp) (a : Addr) (U : List Pr) : Prop := ∃ kvs : List (List Key × V), H a = some (.dT kvs) ∧ kvs.map (·.1) = U.map prKey
theorem UD.same {H H' : Hp} {a : Addr} {U : List Pr} (e : Same H H') (h : UD H a U) : UD H' a U := by
  obtain ⟨kvs, h1, h2⟩ := h
  exact ⟨kvs, e _ _ h1, h2⟩
theorem UD.get {H : Hp} {a b : Addr} {U : List Pr} (h : UD H a U) {x y : Nat} (hb : H b = some (.tup [.int (x : Int), .int (y : Int)])) : ∃ o, DGet H a (.ref b) o ∧ o.isSome = decide ((x, y) ∈ U) := by
  obtain ⟨kvs, h1, h2⟩ := h
  refine ⟨_, DGet.t (k := prKey (x, y)) h1 hb, ?_⟩
  rw [valG_has, h2]
  exact decide_eq_decide.mpr prKey_mem
/-- the dict of the numbers ahead -/
def bef (ws : List (List Nat)) : List (Key × V) := ws.map fun w => (.inl ((lst w : Nat) : Int), .int ((prv w : Nat) : Int))
theorem bef_keys (ws : List (List Nat)) : (bef ws).map (·.1) = (ws.map lst).map fun n : Nat => Sum.inl (n : Int) := by
  unfold bef
  rw [List.map_map, List.map_map]
  rfl
theorem bef_has (ws : List (List Nat)) (n : Nat) : (valV (bef ws) (.inl (n : Int))).isSome = decide (n ∈ ws.map lst) := by
  rw [valG_has, bef_keys]
  exact decide_eq_decide.mpr inl_mem
theorem bef_get : ∀ {ws : List (List Nat)}, (ws.map lst).Nodup → ∀ {w : List Nat}, w ∈ ws → valV (bef ws) (.inl ((lst w : Nat) : Int)) = some (.int ((prv w : Nat) : Int))
  | [], _, w, h => by simp at h
  | w0 :: ws, nd, w, h => by
    rw [List.map_cons, List.nodup_cons] at nd
    rcases List.mem_cons.mp h with e | e
    · subst e
      exact valV_pos rfl
    · have : ¬ (Sum.inl ((lst w0 : Nat) : Int) : Key) = Sum.inl ((lst w : Nat) : Int) := fun z => nd.1 (by
        have e' : lst w0 = lst w := by have := Sum.inl.inj z; omega
        rw [e']
        exact List.mem_map.mpr ⟨w, e, rfl⟩)
      exact (valV_neg this).trans (bef_get nd.2 e)
theorem bef_put {ws : List (List Nat)} {w : List Nat} (h : lst w ∉ ws.map lst) : putK (bef ws) (.inl ((lst w : Nat) : Int)) (.int ((prv w : Nat) : Int)) = bef (ws ++ [w]) := by
  rw [putK_new]
  · unfold bef; rw [List.map_append]; rfl
  · have := bef_has ws (lst w)
    rw [decide_eq_false h] at this
    cases e : valV (bef ws) (.inl ((lst w : Nat) : Int)) with
    | none => rfl
    | some v => rw [e] at this; cases this
/-- before at df, line at dl -/
structure SrcF (H0 H : Hp) (df dl : Addr) (ws : List (List Nat)) (line : List Nat) : Prop where
  same : Same H0 H
  ff : H0 df = none
  fl : H0 dl = none
  ne : df ≠ dl
  kv : H df = some (.dK (bef ws))
  ln : H dl = some (.lst (nV line))
theorem SrcF.more {H0 H H' : Hp} {df dl : Addr} {ws : List (List Nat)} {line : List Nat} (s : SrcF H0 H df dl ws line) (e : Same H H') : SrcF H0 H' df dl ws line := ⟨s.same.trans e, s.ff, s.fl, s.ne, e _ _ s.kv, e _ _ s.ln⟩
theorem SrcF.pop {H0 H : Hp} {df dl : Addr} {ws : List (List Nat)} {line : List Nat} (s : SrcF H0 H df dl ws line) (line' : List Nat) : SrcF H0 (upd H dl (.lst (nV line'))) df dl ws line' :=
  ⟨Same.put s.same s.fl, s.ff, s.fl, s.ne, by rw [upd_ne s.ne]; exact s.kv, upd_same⟩
theorem SrcF.push {H0 H : Hp} {df dl : Addr} {ws : List (List Nat)} {line : List Nat} (s : SrcF H0 H df dl ws line) (ws' : List (List Nat)) : SrcF H0 (upd H df (.dK (bef ws'))) df dl ws' line :=
  ⟨Same.put s.same s.ff, s.ff, s.fl, s.ne, upd_same, by rw [upd_ne s.ne.symm]; exact s.ln⟩
theorem drop_last_of {w : List Nat} {i : Nat} (h : i < w.length) : ∃ x, w[i]? = some x ∧ (w.drop i).reverse = (w.drop (i + 1)).reverse ++ [x] := by
  refine ⟨w[i], List.getElem?_eq_getElem h, ?_⟩
  rw [List.drop_eq_getElem_cons h, List.reverse_cons]
theorem lst_take {w : List Nat} {i x : Nat} (h : w[i]? = some x) : lst (w.take (i + 1)) = x := by
  rw [take_succ' h, lst_snoc]
theorem prv_take {w : List Nat} {i x : Nat} (h : w[i + 1]? = some x) : some (prv (w.take (i + 2))) = w[i]? := by
  have hl : i + 1 < w.length := (List.getElem?_eq_some_iff.mp h).1
  obtain ⟨y, hy⟩ : ∃ y, w[i]? = some y := ⟨w[i], List.getElem?_eq_getElem (by omega)⟩
  have e := take_succ' h
  have : w.take (i + 2) = w.take (i + 1) ++ [x] := e
  rw [this, hy, prv_snoc]
  · rw [lst_take hy]
  · intro z
    rw [take_succ' hy] at z
    simp at z
section
variable {P : Program} {w : World} {K : PySem.W.Frag} {mg : Str → Option Value} {base : Heap} {A : Ad}
def sp_flow_path (A : Ad) : Sp := fun vs H Q _ => ∃ (d ud : Addr) (s t tk : Nat) (p : Project) (U : List Pr), vs = [.ref d, .ref ud, .int (s : Int), .int (t : Int)] ∧ PWf tk p ∧ FilesAt A.File H d p ∧ UD H ud U ∧ U.Nodup ∧ (∀ e ∈ U, Ed p e.1 e.2) ∧ Vbjbaj.doesExist p s = true ∧
  ∀ H' r, Same H H' → ((∃ rp rl w, H' r = some (.tup [.ref rp, .ref rl]) ∧ H' rp = some (.lst (nV w)) ∧ w.Nodup ∧ w.head? = some s ∧ lst w = t ∧ w.length ≤ 10 ∧ Steps p U w) ∨ ∃ rl R, H' r = some (.tup [.non, .ref rl]) ∧ H' rl = some (.lst (nV R)) ∧ R.Pairwise (· < ·) ∧ Side p s t U fun x => decide (x ∈ R)) → Q (.ref r) H'
/-- the search's word -/
def FpW (p : Project) (U : List Pr) (H0 : Hp) (d ud : Addr) (s t : Nat) (df dl : Addr) (m : Nat) (σ : L2.St) (H : Hp) : Prop :=
  ∃ (dn td : List (List Nat)) (x6 x7 x8 x9 : Option V), σ = [some (.ref d), some (.ref ud), some (.int (s : Int)), some (.int (t : Int)), some (.ref df), some (.ref dl), x6, x7, x8, x9, none] ∧ m = 10 - dn.length ∧ Rf (res p U) s dn td ∧ SrcF H0 H df dl (dn ++ td) (td.map lst)
def FpN (p : Project) (U : List Pr) (H0 : Hp) (d ud : Addr) (s t : Nat) (df dl r : Addr) (x7 x8 : Option V) (dn : List (List Nat)) (u : List Nat) (i : Nat) (σ : L2.St) (H : Hp) : Prop :=
  ∃ (td : List (List Nat)) (x9 : Option V), σ = [some (.ref d), some (.ref ud), some (.int (s : Int)), some (.int (t : Int)), some (.ref df), some (.ref dl), some (.int ((lst u : Nat) : Int)), x7, x8, x9, none] ∧ RfIn (res p U) s dn u td ((res p U (lst u)).take i) ∧ SrcF H0 H df dl (dn ++ u :: td) (td.map lst) ∧ H r = some (.lst (nV (res p U (lst u))))
theorem res_len {tk : Nat} {p : Project} (pw : PWf tk p) (U : List Pr) (a : Nat) : (res p U a).length ≤ 20 := by
  unfold res
  rw [List.length_append]
  have h1 := List.length_filter_le (fun b => Vbjbaj.doesExist p b && !decide ((a, b) ∈ U)) (Vbjbaj.importsOf p a)
  have h2 := List.length_filter_le (fun b => decide ((b, a) ∈ U)) (exs p)
  have h3 := (pw.graph).size a
  have h4 := exs_len p
  have h5 : (((List.range 10).filter (Vbjbaj.doesExist p)).filter fun b => decide ((b, a) ∈ U)).length ≤ 10 := Nat.le_trans h2 h4
  omega
theorem ok_flow_path (T : Txt K mg A) {f : Addr} {fd : FuncData} (F : Fun K "flow_path" "flow_path" s_flow_path f fd) : FnOk P w K mg base CX0 1 f fd ["files", "used", "first", "last"] (sp_flow_path A) := by
  refine F.ok sc_flow_path (fun vs H Q E h => by obtain ⟨d, ud, s, t, tk, p, U, rfl, _⟩ := h; rfl) (fun cdv A' outer s H vs Q E hr h => ?_)
  have hu := hu_of hr
  refine ⟨_, (pss_cons (ps_par (i := 4) (j := 5) (by rfl) sc_flow_path.nd rfl rfl (by decide) rfl rfl (pa_cons (pe_disp (pps_cons (pv 2) (pv 2) pps_nil) (by rfl) (by rfl) (fun z => by cases z) (by decide)) (pa_cons (pe_lst (pa_cons (pv 2) pa_nil)) pa_nil)) (by rfl))
(pss_cons (ps_while PassesOwn.never (pt_truth (pv 5) (by intro _; rfl)) (pss_cons (ps_set (i := 6) sc_flow_path.nd rfl (Or.inr rfl) (pe_bm PySem.F.plainAttrs_list PySem.F.slot_list_pop PySem.F.type_list_pop mt_popAt (pv 5) (pa_cons pe_int pa_nil)))
(pss_cons (ps_setLc (i := 7) (y := "ahead") (own := [("other", 9)]) (g := (gName 9)) (tt := (tAnd (tB (tDIn (tVar 9) (tVar 0))) (tB (tDNotIn (tTup (tCons (tVar 6) (tCons (tVar 9) tNil))) (tVar 1))))) (te := (tVar 9)) (by rfl) sc_flow_path.nd rfl rfl (sw_true rfl rfl rfl (by decide +kernel)) (pi_tup (pe_fld (pe_dget hu (pv 0) (pv 6) (fun _ _ => rfl)) rfl)) (blkOk_by (own := [("other", 9)]) (N := N_flow_path) (sc := defScope s_flow_path) (by decide +kernel)) (fun _ _ _ _ _ => (pg_name (i := 9) sc_flow_path.nd rfl (Or.inl rfl))) (fun _ _ _ _ _ => pts_one (PW.pt (pw_and (pt_cmp (pc_din hu (pv 9) (pv 0)) (by rfl)) (pw_and1 (pt_cmp (pc_dnotin hu (pe_tup (pa_cons (pv 6) (pa_cons (pv 9) pa_nil))) (pv 1)) (by rfl)))))) (fun _ _ _ _ _ => (pv 9)))
(pss_cons (ps_setLc (i := 8) (y := "back") (own := [("other", 9)]) (g := (gName 9)) (tt := (tB (tDIn (tTup (tCons (tVar 9) (tCons (tVar 6) tNil))) (tVar 1)))) (te := (tVar 9)) (by rfl) sc_flow_path.nd rfl rfl (sw_true rfl rfl rfl (by decide +kernel)) (pi_list (pe_callB (call_sortedDI rfl) (by rfl) T.b_sorted (by decide +kernel) (pa_cons (pv 0) pa_nil))) (blkOk_by (own := [("other", 9)]) (N := N_flow_path) (sc := defScope s_flow_path) (by decide +kernel)) (fun _ _ _ _ _ => (pg_name (i := 9) sc_flow_path.nd rfl (Or.inl rfl))) (fun _ _ _ _ _ => pts_one (pt_cmp (pc_din hu (pe_tup (pa_cons (pv 9) (pa_cons (pv 6) pa_nil))) (pv 1)) (by rfl))) (fun _ _ _ _ _ => (pv 9)))
(pss_one (ps_for PassesOwn.never rfl (pi_list (pe_op op_cat (pv 7) (pv 8))) (pg_name (i := 9) sc_flow_path.nd rfl (Or.inl rfl)) (pss_one (ps_if (pt_cmp (pc_dnotin hu (pv 9) (pv 4)) (by rfl)) (pss_cons (ps_dput hu (pv 4) (pv 9) (pv 6) rfl)
(pss_one (ps_expr (pe_bm PySem.F.plainAttrs_list PySem.F.slot_list_append PySem.F.type_list_append mt_append (pv 5) (pa_cons (pv 9) pa_nil))))) pss_nil))))))))
(pss_cons (ps_if (pt_cmp (pc_dnotin hu (pv 3) (pv 4)) (by rfl)) (pss_one (ps_ret (pe_tup (pa_cons pe_non (pa_cons (pe_callB (call_sortedDI rfl) (by rfl) T.b_sorted (by decide +kernel) (pa_cons (pv 4) pa_nil)) pa_nil))))) pss_nil)
(pss_cons (ps_set (i := 10) sc_flow_path.nd rfl (Or.inl rfl) (pe_lst (pa_cons (pv 3) pa_nil)))
(pss_cons (ps_while PassesOwn.never (pt_cmpR op_ne (pe_ix ix_list (pv 10) (pe_un un_neg pe_int) (fun _ _ => rfl)) (pv 2) (nomark _)) (pss_one (ps_expr (pe_bm PySem.F.plainAttrs_list PySem.F.slot_list_append PySem.F.type_list_append mt_append (pv 10) (pa_cons (pe_dget hu (pv 4) (pe_ix ix_list (pv 10) (pe_un un_neg pe_int) (fun _ _ => rfl)) (fun _ _ => rfl)) pa_nil)))))
(pss_one (ps_ret (pe_tup (pa_cons (pe_revL (pv 10)) (pa_cons (pe_lst pa_nil) pa_nil)))))))))), ?_⟩
  obtain ⟨d, ud, s, t, tk, p, U, rfl, pw, fa, hud, nU, eU, hs, k⟩ := h
  intro df hdf
  refine ⟨_, rfl, _, rfl, upd_same, [(.inl (s : Int), .int (s : Int))], rfl, by show 1 ≤ 15; decide, ?_⟩
  refine ⟨_, rfl, by show 1 ≤ sizeLine; decide, fun dl hdl => ?_⟩
  refine ⟨_, _, rfl, ?_⟩
  have ndl : df ≠ dl := fun z => by rw [← z, upd_same] at hdl; cases hdl
  have hdl' : H dl = none := by rwa [upd_ne ndl.symm, upd_ne ndl.symm] at hdl
  refine ⟨FpW p U H d ud s t df dl, ⟨10, [], [[s]], none, none, none, none, rfl, rfl, Rf.start _ _, ?_⟩, ?_⟩
  · exact ⟨Same.put (Same.put (Same.new hdf) hdf) hdl', hdf, hdl', ndl, by rw [upd_ne ndl, upd_same]; rfl, upd_same⟩
  · rintro m σ H1 ⟨dn, td, x6, x7, x8, x9, rfl, rfl, b, sh⟩
    cases td with
    | nil =>
      refine ⟨_, rfl, false, tru_list (SqL.of sh.ln) rfl, iteF ?_⟩
      have kv := sh.kv
      rw [List.append_nil] at kv
      refine ⟨_, rfl, _, rfl, df, _, rfl, DGet.k (k := .inl (t : Int)) kv, _, rfl, ?_⟩
      rw [bef_has]
      refine ite2 (fun c => ?_) (fun c => ?_)
      · have c' : t ∉ dn.map lst := by simpa using c
        have nd : (dn.map lst).Nodup := by have := b.nd; rwa [List.append_nil] at this
        have l10 : dn.length ≤ 10 := by have := b.size pw eU hs; rwa [List.append_nil] at this
        refine ⟨_, rfl, df, _, (dn.map lst).map fun n : Nat => (n : Int), rfl, .inl kv, by rw [bef_keys]; simp, by simp; omega, fun ys r0 hperm hsort hr0 => ?_⟩
        obtain ⟨R, e, pR, sR⟩ := sorted_nats hperm hsort
        subst e
        have upR := le_nodup_lt sR (pR.symm.nodup nd)
        refine ⟨by show 2 ≤ sizeLine; decide, fun r hr => ?_⟩
        refine k _ r (Same.neu (Same.neu sh.same hr0) hr) (.inr ⟨r0, R, upd_same, ?_, upR, b.side pw eU hs c' fun x => (pR.mem_iff).symm⟩)
        rw [upd_ne (fun z => by rw [← z, upd_same] at hr; cases hr), upd_same, List.map_map]
        rfl
      · have c' : t ∈ dn.map lst := by
          by_cases q : t ∈ dn.map lst
          · exact q
          · rw [decide_eq_false q] at c
            exact absurd rfl c
        obtain ⟨w0, hw, rfl⟩ := List.mem_map.mp c'
        have nd : (dn.map lst).Nodup := by have := b.nd; rwa [List.append_nil] at this
        have wk := b.wk
        have par := b.par
        rw [List.append_nil] at wk par
        obtain ⟨q1, q2, -⟩ := wk w0 hw
        have hh := q1.head
        have ne : w0 ≠ [] := fun z => by rw [z] at hh; cases hh
        have hl0 : 0 < w0.length := by cases w0 with
          | nil => exact absurd rfl ne
          | cons a r => simp
        have l10 : w0.length ≤ 10 := lt_of_nodup 10 _ q2 fun x hx => by
          obtain ⟨i, hi⟩ := List.getElem?_of_mem hx
          have := Rf.prefix (nx := res p U) par _ w0 hw rfl i (List.getElem?_eq_some_iff.mp hi).1
          obtain ⟨q, -, -⟩ := wk _ this
          have := wk_exists pw eU hs q
          rw [lst_take hi] at this
          exact pw.lt this
        refine ⟨_, rfl, by show 1 ≤ sizeLine; decide, fun pa hpa => ?_⟩
        refine ⟨fun m σ H2 => m < w0.length ∧ σ = [some (.ref d), some (.ref ud), some (.int (s : Int)), some (.int ((lst w0 : Nat) : Int)), some (.ref df), some (.ref dl), x6, x7, x8, x9, some (.ref pa)] ∧ Same H H2 ∧ H2 df = some (.dK (bef dn)) ∧ H2 pa = some (.lst (nV (w0.drop m).reverse)),
          ⟨w0.length - 1, by omega, rfl, Same.neu sh.same hpa, ?_, ?_⟩, ?_⟩
        · rw [upd_ne fun z => by rw [← z, kv] at hpa; cases hpa]
          exact kv
        · rw [upd_same]
          obtain ⟨z, e1, e2⟩ := drop_last_of (w := w0) (i := w0.length - 1) (by omega)
          have : lst (w0.take (w0.length - 1 + 1)) = z := lst_take e1
          rw [List.take_of_length_le (by omega)] at this
          rw [e2, List.drop_eq_nil_of_le (by omega), this]
          rfl
        · rintro m σ H2 ⟨hm, rfl, s2, hb2, hp2⟩
          obtain ⟨z, e1, e2⟩ := drop_last_of hm
          have hp2' := hp2
          rw [e2, nV_snoc] at hp2'
          refine ⟨_, rfl, _, rfl, pa, _, _, _, rfl, rfl, SqL.of hp2', atI_last _ _, _, rfl, rfl, ?_⟩
          have z0 : ∀ i, w0[i]? = some s → i = 0 := fun i hi => by
            have l1 := (List.getElem?_eq_some_iff.mp hi)
            have l2 : w0[0]? = some s := by rw [← List.head?_eq_getElem?]; exact hh
            have l3 := (List.getElem?_eq_some_iff.mp l2)
            obtain ⟨l1, l1'⟩ := l1
            obtain ⟨l3, l3'⟩ := l3
            by_cases c0 : i = 0
            · exact c0
            · exact absurd (l3'.trans l1'.symm) (List.pairwise_iff_getElem.mp q2 0 i l3 l1 (by omega))
          refine ⟨_, rfl, ?_⟩
          rw [dec_int]
          refine ite2 (fun c => ?_) (fun c => ?_)
          · have hz : z ≠ s := fun y => by subst y; simp at c
            have hm0 : m ≠ 0 := fun y => by
              subst y
              have : w0[0]? = some s := by rw [← List.head?_eq_getElem?]; exact hh
              rw [this] at e1
              exact hz (Option.some.inj e1).symm
            obtain ⟨j, rfl⟩ := Nat.exists_eq_succ_of_ne_zero hm0
            obtain ⟨y, e3, e4⟩ := drop_last_of (w := w0) (i := j) (by omega)
            have pz := prv_take e1
            rw [e3] at pz
            have lz := lst_take e1
            have mz := Rf.prefix (nx := res p U) par _ w0 hw rfl (j + 1) hm
            have gz := bef_get nd mz
            rw [lz, Option.some.inj pz] at gz
            refine ⟨fun σ' H' => ∃ m', m' < j + 1 ∧ m' < w0.length ∧ σ' = [some (.ref d), some (.ref ud), some (.int (s : Int)), some (.int ((lst w0 : Nat) : Int)), some (.ref df), some (.ref dl), x6, x7, x8, x9, some (.ref pa)] ∧ Same H H' ∧ H' df = some (.dK (bef dn)) ∧ H' pa = some (.lst (nV (w0.drop m').reverse)), fun _ _ z => z, ?_⟩
            have nd2 : df ≠ pa := fun z => by rw [z, hp2] at hb2; cases hb2
            have dg : DGet H2 df (.int (z : Int)) (some (.int (y : Int))) := by rw [← gz]; exact DGet.k (k := .inl (z : Int)) hb2
            refine ⟨_, rfl, .inl ⟨rfl, _, SqL.of hp2⟩, _, rfl, _, rfl, _, rfl, pa, _, _, _, rfl, rfl, SqL.of hp2', atI_last _ _, df, _, rfl, dg, pa, _, _, rfl, rfl, hp2, lt_size (n := (nV (w0.drop (j + 1)).reverse).length) (by rw [nV_len, List.length_reverse, List.length_drop]; omega), ?_⟩
            refine ⟨j, by omega, by omega, rfl, Same.put s2 ?_, by rw [upd_ne nd2]; exact hb2, ?_⟩
            · exact sh.same.free hpa
            · rw [upd_same, e4, nV_snoc]
          · have hz : z = s := by
              by_cases y : z = s
              · exact y
              · exact absurd (by simp; omega) c
            subst hz
            have := z0 m e1
            subst this
            refine ⟨_, rfl, pa, _, rfl, SqL.of hp2, fun pr hpr => ⟨by show 0 ≤ sizeLine; decide, fun rl hrl => ⟨by show 2 ≤ sizeLine; decide, fun r hr => ?_⟩⟩⟩
            have n1 : pr ≠ rl := fun z => by rw [← z, upd_same] at hrl; cases hrl
            have n2 : pr ≠ r := fun z => by rw [← z, upd_ne n1, upd_same] at hr; cases hr
            refine k _ r (Same.neu (Same.neu (Same.neu s2 hpr) hrl) hr) (.inl ⟨pr, rl, w0, upd_same, ?_, q2, hh, rfl, l10, wk_steps pw eU q1⟩)
            rw [upd_ne n2, upd_ne n1, upd_same, ← List.map_reverse, List.reverse_reverse, List.drop_zero]
    | cons u td =>
      have szb := b.size pw eU hs
      have hlt : dn.length < 10 := by simp at szb; omega
      have hux : Vbjbaj.doesExist p (lst u) = true := wk_exists pw eU hs (b.wk u (by simp)).1
      obtain ⟨x, hx⟩ := doesExist_iff.mp hux
      have imp : Vbjbaj.importsOf p (lst u) = x.imports := importsOf_some hx
      have li : x.imports.length ≤ 10 := by have := (pw.graph).size (lst u); rwa [imp] at this
      refine ⟨_, rfl, true, tru_list (SqL.of sh.ln) rfl, iteT ⟨fun σ' H' => ∃ m', m' < 10 - dn.length ∧ FpW p U H d ud s t df dl m' σ' H', fun _ _ z => z, ?_⟩⟩
      refine ⟨_, rfl, .inl ⟨rfl, _, SqL.of sh.ln⟩, dl, _, 0, 0, _, rfl, rfl, sh.ln, by decide, by decide, seq0 _, rfl, ?_⟩
      have sh1 : SrcF H (upd H1 dl (.lst ((nV ((u :: td).map lst)).eraseIdx 0))) df dl (dn ++ u :: td) (td.map lst) := sh.pop _
      generalize upd H1 dl (.lst ((nV ((u :: td).map lst)).eraseIdx 0)) = H2 at sh1 ⊢
      obtain ⟨a, ga, dx, it, st, tt, ss, h1, h2, h3, h4, h5⟩ := (fa.same sh1.same).get hx
      refine ⟨_, rfl, _, rfl, d, _, rfl, ga, a, A.File, dx, _, _, rfl, h1, T.clF, T.nF_imports, fileF_imports it st tt, it, rfl, ⟨_, SqT.of h2⟩, fun D hD => ?_⟩
      refine lc_tup (K := K) (a := it) (xs := nV x.imports) (LcP H2 D (Fil x.imports (fun b => Vbjbaj.doesExist p b && !decide ((lst u, b) ∈ U)) fun m : Nat => V.int (m : Int))) (LcP.start hD rfl) (fun i H' _ p => SqT.of (p.1 _ _ h2)) (fun i y H' hy pv => ?_) (fun H' pv => ?_)
      · obtain ⟨v, hv, rfl⟩ := nV_at hy
        obtain ⟨o, go, ho⟩ := (fa.same (sh1.same.trans pv.1)).has v
        refine ⟨rfl, _, rfl, _, rfl, d, o, rfl, go, _, rfl, ?_⟩
        rw [ho]
        refine ite2 (fun c => ?_) (fun c => ?_)
        · refine ⟨_, rfl, _, rfl, by show 2 ≤ sizeLine; decide, fun q hq => ?_⟩
          have s2 : Same H' (upd H' q (.tup [.int ((lst u : Nat) : Int), .int (v : Int)])) := Same.new hq
          obtain ⟨o2, go2, ho2⟩ := (hud.same ((sh1.same.trans pv.1).trans s2)).get (x := lst u) (y := v) upd_same
          refine ⟨_, rfl, ud, o2, rfl, go2, _, rfl, ?_⟩
          rw [ho2]
          refine ite2 (fun c2 => ⟨_, rfl, ?_⟩) (fun c2 => ?_)
          · exact pv.push hD s2 (Fil.yes hv (by rw [c, c2]; rfl)) (Fil.lt (by omega))
          · exact pv.skip s2 (Fil.no hv (by rw [c]; simpa using c2))
        · refine ite2 (fun c2 => absurd c2 (by decide)) (fun _ => ?_)
          exact pv.skip (Same.refl _) (Fil.no hv (by rw [Bool.not_eq_true] at c; rw [c]; rfl))
      · obtain ⟨s3, e3⟩ := pv
        rw [nV_len, Fil.all] at e3
        have sh3 := sh1.more s3
        obtain ⟨kvs, rd, kf⟩ := fa.same sh3.same
        obtain ⟨ks, ek, k64, ksort⟩ := kf.sorted pw
        refine ⟨_, rfl, d, kvs, ks, rfl, rd, ek, k64, fun ys r0 hperm hsort hr0 => ?_⟩
        rw [ksort ys hperm hsort]
        have s4 : Same H' (upd H' r0 (.lst (nV (exs p)))) := Same.new hr0
        have e4 : upd H' r0 (.lst (nV (exs p))) r0 = some (.lst (nV (exs p))) := upd_same
        generalize upd H' r0 (.lst (nV (exs p))) = H4 at s4 e4
        have sh4 := sh3.more s4
        have l10 := exs_len p
        refine ⟨r0, rfl, ⟨_, SqL.of e4⟩, fun D2 hD2 => lc_list (K := K) (a := r0) (xs := nV (exs p)) (LcP H4 D2 (Fil (exs p) (fun b => decide ((b, lst u) ∈ U)) fun n : Nat => V.int (n : Int))) (LcP.start hD2 rfl) (fun i H' _ pv => SqL.of (pv.1 _ _ e4)) (fun i y H5 hy pv => ?_) (fun H5 pv => ?_)⟩
        · obtain ⟨g, hg, rfl⟩ := nV_at hy
          refine ⟨rfl, _, rfl, _, rfl, by show 2 ≤ sizeLine; decide, fun q hq => ?_⟩
          have s2 : Same H5 (upd H5 q (.tup [.int (g : Int), .int ((lst u : Nat) : Int)])) := Same.new hq
          obtain ⟨o2, go2, ho2⟩ := (hud.same ((sh4.same.trans pv.1).trans s2)).get (x := g) (y := lst u) upd_same
          refine ⟨_, rfl, ud, o2, rfl, go2, _, rfl, ?_⟩
          rw [ho2]
          refine ite2 (fun c2 => ⟨_, rfl, ?_⟩) (fun c2 => ?_)
          · exact pv.push hD2 s2 (Fil.yes hg c2) (Fil.lt (by omega))
          · exact pv.skip s2 (Fil.no hg (by simpa using c2))
        · obtain ⟨s5, e5⟩ := pv
          rw [nV_len, Fil.all] at e5
          have sh5 := sh4.more s5
          have rl := res_len pw U (lst u)
          have er : nV (res p U (lst u)) = (x.imports.filter (fun b => Vbjbaj.doesExist p b && !decide ((lst u, b) ∈ U))).map (fun m : Nat => V.int (m : Int)) ++ ((exs p).filter fun b => decide ((b, lst u) ∈ U)).map fun m : Nat => V.int (m : Int) := by
            unfold res
            rw [imp, nV, List.map_append]
            rfl
          refine ⟨_, rfl, _, rfl, D, D2, _, _, rfl, rfl, s5 _ _ (s4 _ _ e3), e5, by rw [← List.length_append, ← er, nV_len]; exact Nat.le_of_lt (lt_size (by omega)), fun r hr => ?_⟩
          rw [← er]
          have hr' := hr
          have e6 : upd H5 r (.lst (nV (res p U (lst u)))) r = some (.lst (nV (res p U (lst u)))) := upd_same
          have sh6 := sh5.more (Same.new (o := .lst (nV (res p U (lst u)))) hr)
          generalize upd H5 r (.lst (nV (res p U (lst u)))) = H6 at e6 sh6
          have nr1 : r ≠ df := fun z => by rw [z, sh5.kv] at hr; cases hr
          have nr2 : r ≠ dl := fun z => by rw [z, sh5.ln] at hr; cases hr
          refine ⟨r, rfl, ⟨_, SqL.of e6⟩, for_list (K := K) (a := r) (xs := nV (res p U (lst u))) (FpN p U H d ud s t df dl r _ _ dn u) ⟨td, x9, rfl, b.into, sh6, e6⟩ (fun i σ H' _ ⟨_, _, _, _, _, q⟩ => SqL.of q) ?_ ?_⟩
          · rintro i y σ H7 hy ⟨td', x9', rfl, bi, sh7, hr7⟩
            obtain ⟨v, hv, rfl⟩ := nV_at hy
            have ev := take_succ' hv
            have kv7 := sh7.kv
            refine ⟨_, rfl, _, rfl, df, _, rfl, DGet.k (k := .inl (v : Int)) kv7, _, rfl, ?_⟩
            rw [bef_has]
            refine ite2 (fun c => ?_) (fun c => ?_)
            · have c' : v ∉ (dn ++ u :: td').map lst := by simpa using c
              have bi' := bi.more c' (List.mem_of_getElem? hv)
              rw [← ev] at bi'
              have sz := bi.size pw eU hs
              have ep : putK (bef (dn ++ u :: td')) (.inl (v : Int)) (.int ((lst u : Nat) : Int)) = bef (dn ++ u :: td' ++ [u ++ [v]]) := by
                have ne : u ≠ [] := (bi.wk u (by simp)).1.ne
                have := bef_put (ws := dn ++ u :: td') (w := u ++ [v]) (by rw [lst_snoc]; exact c')
                rw [lst_snoc, prv_snoc ne] at this
                exact this
              refine ⟨_, rfl, _, rfl, _, rfl, df, _, rfl, DPut.k (k := .inl (v : Int)) kv7 (lt_size (by unfold bef; rw [List.length_map]; omega)), ?_⟩
              rw [ep]
              have sh8 := sh7.push (dn ++ u :: td' ++ [u ++ [v]])
              refine ⟨_, rfl, .inl ⟨rfl, _, SqL.of sh8.ln⟩, _, rfl, dl, _, _, rfl, rfl, sh8.ln, lt_size (by rw [nV_len, List.length_map]; simp at sz; omega), ?_⟩
              refine ⟨td' ++ [u ++ [v]], _, rfl, bi', ?_, ?_⟩
              · have := sh8.pop ((td' ++ [u ++ [v]]).map lst)
                have e2 : nV ((td' ++ [u ++ [v]]).map lst) = nV (td'.map lst) ++ [V.int (v : Int)] := by
                  rw [List.map_append, show [u ++ [v]].map lst = [v] by simp [lst_snoc], nV_snoc]
                rw [e2] at this
                have e3 : dn ++ u :: (td' ++ [u ++ [v]]) = dn ++ u :: td' ++ [u ++ [v]] := by simp
                rw [e3]
                exact this
              · rw [upd_ne nr2, upd_ne nr1]
                exact hr7
            · have c' : v ∈ (dn ++ u :: td').map lst := by
                by_cases q : v ∈ (dn ++ u :: td').map lst
                · exact q
                · rw [decide_eq_false q] at c
                  exact absurd rfl c
              have bi' := bi.skip c'
              rw [← ev] at bi'
              exact ⟨td', _, rfl, bi', sh7, hr7⟩
          · rintro σ H7 ⟨td', x9', rfl, bi, sh7, hr7⟩
            rw [nV_len, List.take_length] at bi
            refine ⟨10 - (dn ++ [u]).length, by simp; omega, dn ++ [u], td', _, _, _, _, rfl, rfl, bi.out, ?_⟩
            have e3 : dn ++ [u] ++ td' = dn ++ u :: td' := by simp
            rw [e3]
            exact sh7
end
end Sf
/-! W14a: d.pop(k) of a dict with tuple keys, k there. -/
namespace Sf
open PySem PySem.W PySem.Calls PyProof.Rows PyProof.V PySem.Spec
open L2 DT
section
variable {prog : Program} {w : World}
theorem meetsPopT1 {K : Type} [DecidableEq K] {knd : HeapKind prog w K} {d b : Addr} {k : K} (hd : (d == sysModules) = false) :
    MeetsIn prog w (Builtin.«dict.pop» ⟨[.ref d, .ref b], []⟩) (fun A R s => ∃ xs p, knd.room A.in1 ∧ knd.is s.heap k b ∧ s.heap.DictOfH knd d xs ∧ xs.length ≤ sizeLine ∧ atKey xs k = some p ∧
      ∀ h' tk, h'.DictOfH knd d (dropH xs k) → Heap.SameBut d s.heap h' → R (.ok (.ret p.2)) { s with heap := h', toks := tk }) :=
  .of_wp fun A R s ⟨xs, p0, hu, hkey, hm, hsz, hthere, hsome⟩ => by
    obtain ⟨o, es, ep, ho, hc, hdat, he, his, hn⟩ := id hm
    have hes : es.size = xs.length := size_of_entries he
    have hpart : (keyPart (Value.ref b)).isSome = false := rfl
    unfold Builtin.«dict.pop»
    refine wpAny_bind ?_
    unfold Builtin.Dict.keyAndDefault
    refine wpAny_bind (wpAny_notOrdered_dict hm.typeIs ?_)
    show wpAny _ _ (pure (d, Value.ref b, none)) _ _ s
    refine wpAny_pure ?_
    simp only [hpart, Bool.false_eq_true, if_false]
    refine wpAny_bind (wpAny_dictEntries ho hdat (wpAny_bind (wpAny_pure ?_)))
    cases hem : es.isEmpty with
    | true =>
      have h0 : xs = [] := by
        have z : es.size = 0 := by simpa using hem
        exact List.length_eq_zero_iff.mp (by omega)
      subst h0
      cases hthere
    | false =>
      simp only [Bool.false_eq_true, if_false]
      refine wpAny_bind (takeH hu hkey hm hsz (fun hno => ?_) fun p e hp hev h' hm' hs' => ?_)
      · rw [hno] at hthere
        cases hthere
      · simp only [Option.isNone_some, Bool.false_eq_true, if_false]
        rw [hthere] at hp
        cases hp
        exact wpAny_bind (wpAny_letGo (wpAny_pure ⟨e.val, rfl, by rw [hev]; exact hsome h' _ hm' hs'⟩))
end
section
variable {X : Cx}
def rPopT1 : V → List V → Hp → VK → Prop := fun x xs H Q => ∃ (a : Addr) (kvs : List (List L2.Key × V)) (k : List L2.Key) (b : Addr) (v : V), x = .ref a ∧ xs = [.ref b] ∧ H a = some (.dT kvs) ∧ H b = some (.tup (k.map kV)) ∧ valV kvs k = some v ∧ Q v (upd H a (.dT (dropK kvs k)))
theorem mt_popT1 (hu : X.A.units + 1 < cLine) : MtR X "dict.pop" rPopT1 := by
  intro pins s σ H x xs v us Q I rx rxs h
  obtain ⟨a, kvs, k, b, v0, rfl, rfl, ha, hb, ev, q1⟩ := h
  cases rx
  obtain ⟨u1, rfl, r1⟩ := rxs.one
  cases r1
  obtain ⟨z, hd, xs', rel, dd⟩ := dt_of I.hok ha
  have hz : xs'.length ≤ sizeLine := by rw [← Paired.length rel]; exact z
  have r := rel.val k
  rw [ev] at r
  obtain ⟨p, hp, rv⟩ : ∃ p, atKey xs' k = some p ∧ RelV v0 p.2 := by
    cases e : atKey xs' k with
    | none =>
      rw [e] at r
      exact (show False from r).elim
    | some p =>
      rw [e] at r
      exact ⟨p, rfl, r⟩
  refine call_meetsIn PySem.F.slot_dict_pop dd.typeIs PySem.F.entry_dict_pop (PySem.F.args_dict_pop_2 _ _) (meetsPopT1 (knd := tupleKind (mixKind X.prog X.w)) (k := k) hd)
    ⟨xs', p, tupleKind_room_in1 hu, key_of I.hok hb, dd, hz, hp, fun h' tk dd' hs => ?_⟩
  obtain ⟨o, es, ep, hq, h2, h3, h4, _, h5⟩ := dd'
  have I2 : Inv X pins σ (upd H a (.dT (dropK kvs k))) { s with heap := h', toks := tk } :=
    d_write I (by rw [ha]; exact True.intro) hs ⟨o, hq⟩ ⟨Nat.le_trans (dropK_le kvs k) z, hd, _, (L2.DX.KT_drop k rel).keeps (fun c ys ec => (by rw [upd_ne (ne_of ec ha (fun z => nomatch z))]; exact ec)), o, es, ep, hq, h2, h3, h4, h5⟩
  show EP X pins σ Q p.2 _
  exact ⟨v0, _, I2, rv, q1⟩
end
end Sf
/-! W14: cut. -/
namespace Sf
open PySem PySem.Spec PyProof.Rows L2
open Vbjbaj (Statement File Project)
theorem augPath_snoc (a b : Nat) : ∀ (w : List Nat) (U : List Pr), augPath U (w ++ [a, b]) = augStep (augPath U (w ++ [a])) a b
  | [], _ => rfl
  | [_], _ => rfl
  | x :: y :: r, U => augPath_snoc a b (y :: r) (augStep U x y)
theorem aug_take {w : List Nat} {U : List Pr} {i a b : Nat} (ha : w[i]? = some a) (hb : w[i + 1]? = some b) : augPath U (w.take (i + 2)) = augStep (augPath U (w.take (i + 1))) a b := by
  have e1 := take_succ' ha
  have e2 := take_succ' hb
  have : w.take (i + 2) = w.take i ++ [a, b] := by
    show w.take (i + 1 + 1) = _
    rw [e2, e1]; simp
  rw [this, e1]
  exact augPath_snoc a b _ _
theorem keys_drop {κ : Type} [DecidableEq κ] (kvs : List (κ × V)) (k : κ) : (dropK kvs k).map (·.1) = (kvs.map (·.1)).filter fun x => decide (x ≠ k) := by
  unfold dropK
  induction kvs with
  | nil => rfl
  | cons kv r ih =>
    rw [List.map_cons]
    by_cases c : kv.1 = k
    · rw [List.filter_cons_of_neg (by simpa using c), List.filter_cons_of_neg (by simpa using c), ih]
    · rw [List.filter_cons_of_pos (by simpa using c), List.filter_cons_of_pos (by simpa using c), List.map_cons, ih]
theorem UD.pop {H : Hp} {du : Addr} {U : List Pr} {kvs : List (List Key × V)} (h2 : kvs.map (·.1) = U.map prKey) (e : Pr) : UD (upd H du (.dT (dropK kvs (prKey e)))) du (U.filter fun x => decide (x ≠ e)) := by
  refine ⟨_, upd_same, ?_⟩
  rw [keys_drop, h2, List.filter_map]
  congr 1
  refine List.filter_congr fun x _ => ?_
  show decide (prKey x ≠ prKey e) = _
  refine decide_eq_decide.mpr ⟨fun h z => h (by rw [z]), fun h z => h (prKey_inj z)⟩
theorem UD.put {H : Hp} {du : Addr} {U : List Pr} {kvs : List (List Key × V)} (h2 : kvs.map (·.1) = U.map prKey) (e : Pr) (v : V) : UD (upd H du (.dT (putK kvs (prKey e) v))) du (if e ∈ U then U else U ++ [e]) := by
  refine ⟨_, upd_same, ?_⟩
  rw [putK_map, h2]
  by_cases c : e ∈ U
  · rw [if_pos c, if_pos (prKey_mem.mpr c)]
  · rw [if_neg c, if_neg fun z => c (prKey_mem.mp z), List.map_append]
    rfl
theorem valV_some_of' {κ : Type} [DecidableEq κ] {kvs : List (κ × V)} {k : κ} (h : k ∈ kvs.map (·.1)) : ∃ v, valV kvs k = some v := by
  cases e : valV kvs k with
  | none => exact absurd h (valV_not e)
  | some v => exact ⟨v, rfl⟩
def prV (e : Pr) : List V := [.int (e.1 : Int), .int (e.2 : Int)]
/-- what leads out of the side R, from a -/
def outAt (p : Project) (R : List Nat) (a : Nat) : List Pr := ((Vbjbaj.importsOf p a).filter fun b => Vbjbaj.doesExist p b && !decide (b ∈ R)).map fun b => (a, b)
theorem leaving_eq {tk : Nat} {p : Project} (pw : PWf tk p) {R : List Nat} (up : R.Pairwise (· < ·)) (h10 : ∀ a ∈ R, a < 10) {m : Nat} (hb : ∀ i, i < 10 → m.testBit i = decide (i ∈ R)) : R = (List.range 10).filter m.testBit ∧ Vbjbaj.leaving p m = R.flatMap (outAt p R) := by
  have e1 : R = (List.range 10).filter m.testBit := eq_of_up _ _ up (List.Pairwise.filter _ (range_up 10)) fun x => by
    rw [List.mem_filter, List.mem_range]
    constructor
    · exact fun h => ⟨h10 x h, by rw [hb x (h10 x h)]; exact decide_eq_true h⟩
    · rintro ⟨h1, h2⟩
      rw [hb x h1] at h2
      exact of_decide_eq_true h2
  refine ⟨e1, ?_⟩
  have key : ∀ l : List Nat, (∀ a ∈ l, a < 10) → (l.flatMap fun f => if m.testBit f = false then [] else ((Vbjbaj.importsOf p f).filter fun g => Vbjbaj.doesExist p g && !m.testBit g).map fun g => (f, g)) = (l.filter m.testBit).flatMap (outAt p R) := by
    intro l
    induction l with
    | nil => intro _; rfl
    | cons a l ih =>
      intro hl
      rw [List.flatMap_cons, ih fun b hb => hl b (List.mem_cons_of_mem _ hb)]
      cases c : m.testBit a with
      | false =>
        rw [if_pos rfl, List.filter_cons_of_neg (by simp [c])]
        rfl
      | true =>
        rw [if_neg (by decide), List.filter_cons_of_pos c, List.flatMap_cons]
        congr 1
        unfold outAt
        congr 1
        refine List.filter_congr fun g _ => ?_
        cases ex : Vbjbaj.doesExist p g with
        | false => rfl
        | true => rw [hb g (pw.lt ex)]
  unfold Vbjbaj.leaving
  have := key (List.range 10) fun a ha => List.mem_range.mp ha
  rw [← e1] at this
  exact this
section
variable {P : Program} {w : World} {K : PySem.W.Frag} {mg : Str → Option Value} {base : Heap} {A : Ad}
def sp_cut (A : Ad) : Sp := fun vs H Q _ => ∃ (d : Addr) (s t tk : Nat) (p : Project), vs = [.ref d, .int (s : Int), .int (t : Int)] ∧ PWf tk p ∧ FilesAt A.File H d p ∧ Vbjbaj.doesExist p s = true ∧ t < 10 ∧ s ≠ t ∧
  ∀ H' r r1 r2 us m, Same H H' → H' r = some (.tup [.ref r1, .ref r2]) → H' r1 = some (.lst (nV ((List.range 10).filter m.testBit))) → H' r2 = some (.lst us) → Paired (TupV prV H') us (Vbjbaj.leaving p m) → Vbjbaj.cutOf p s t = some (m, Vbjbaj.leaving p m) → Q (.ref r) H'
def CutE (p : Project) (s t : Nat) (U : List Pr) (H : Hp) (rl : Addr) (pv : V) : Prop :=
  (∃ rp w, pv = .ref rp ∧ H rp = some (.lst (nV w)) ∧ w.Nodup ∧ w.head? = some s ∧ lst w = t ∧ w.length ≤ 10 ∧ Steps p U w) ∨ (pv = .non ∧ ∃ R, H rl = some (.lst (nV R)) ∧ R.Pairwise (· < ·) ∧ Side p s t U fun x => decide (x ∈ R))
def CutW (p : Project) (H0 : Hp) (d : Addr) (s t : Nat) (du : Addr) (m : Nat) (σ : L2.St) (H : Hp) : Prop :=
  ∃ (U : List Pr) (k : Nat) (rl : Addr) (pv : V) (x6 x7 x8 : Option V), σ = [some (.ref d), some (.int (s : Int)), some (.int (t : Int)), some (.ref du), some pv, some (.ref rl), x6, x7, x8, none, none, none] ∧ m = 10 - k ∧ Same H0 H ∧ UD H du U ∧ Flow p s t U k ∧ CutE p s t U H rl pv
theorem ok_cut (T : Txt K mg A) (C_flow_path : Cal P w K mg base CX0 1 "flow_path" ["files", "used", "first", "last"] (sp_flow_path A)) {f : Addr} {fd : FuncData} (F : Fun K "cut" "cut" s_cut f fd) : FnOk P w K mg base CX0 2 f fd ["files", "first", "last"] (sp_cut A) := by
  refine F.ok sc_cut (fun vs H Q E h => by obtain ⟨d, s, t, tk, p, rfl, _⟩ := h; rfl) (fun cdv A' outer s H vs Q E hr h => ?_)
  have hu := hu_of hr
  refine ⟨_, (pss_cons (ps_set (i := 3) sc_cut.nd rfl (Or.inl rfl) pe_dnewT)
(pss_cons (ps_asg (pe_cal C_flow_path (hr.mono (by decide)) pass0 (pa_cons (pv 0) (pa_cons (pv 3) (pa_cons (pv 1) (pa_cons (pv 2) pa_nil))))) (pg_tup rfl (pgs_cons (pg_name (i := 4) sc_cut.nd rfl (Or.inl rfl)) (pgs_cons (pg_name (i := 5) sc_cut.nd rfl (Or.inr rfl)) pgs_nil))))
(pss_cons (ps_while PassesOwn.never (pt_cmp (pc_notN (pv 4)) (by rfl)) (pss_cons (ps_for PassesOwn.never rfl (pi_range1 rfl T.b_range (pa_cons (pe_op op_sub (pe_callB call_len_seq (by rfl) T.b_len (by decide +kernel) (pa_cons (pv 4) pa_nil)) pe_int) pa_nil)) (pg_name (i := 6) sc_cut.nd rfl (Or.inl rfl)) (pss_cons (ps_par (i := 7) (j := 8) (by rfl) sc_cut.nd rfl rfl (by decide) rfl rfl (pa_cons (pe_ix ix_list (pv 4) (pv 6) (fun _ _ => rfl)) (pa_cons (pe_ix ix_list (pv 4) (pe_op op_add (pv 6) pe_int) (fun _ _ => rfl)) pa_nil)) (by rfl))
(pss_one (ps_if (pt_cmp (pc_din hu (pe_tup (pa_cons (pv 8) (pa_cons (pv 7) pa_nil))) (pv 3)) (by rfl)) (pss_one (ps_expr (pe_bm PySem.F.plainAttrs_dict PySem.F.slot_dict_pop PySem.F.type_dict_pop (mt_popT1 hu) (pv 3) (pa_cons (pe_tup (pa_cons (pv 8) (pa_cons (pv 7) pa_nil))) pa_nil)))) (pss_one (ps_dput hu (pv 3) (pe_tup (pa_cons (pv 7) (pa_cons (pv 8) pa_nil))) pe_bl rfl))))))
(pss_one (ps_asg (pe_cal C_flow_path (hr.mono (by decide)) pass0 (pa_cons (pv 0) (pa_cons (pv 3) (pa_cons (pv 1) (pa_cons (pv 2) pa_nil))))) (pg_tup rfl (pgs_cons (pg_name (i := 4) sc_cut.nd rfl (Or.inl rfl)) (pgs_cons (pg_name (i := 5) sc_cut.nd rfl (Or.inr rfl)) pgs_nil)))))))
(pss_cons (ps_set (i := 9) sc_cut.nd rfl (Or.inl rfl) (pe_lst pa_nil))
(pss_cons (ps_for PassesOwn.never rfl (pi_list (pv 5)) (pg_name (i := 10) sc_cut.nd rfl (Or.inr rfl)) (pss_one (ps_expr (pe_bm PySem.F.plainAttrs_list PySem.F.slot_list_extend PySem.F.type_list_extend mt_extend (pv 9) (pa_cons (pe_lc (own := [("other", 11)]) (g := (gName 11)) (tt := (tAnd (tB (tDIn (tVar 11) (tVar 0))) (tTest (tOp (rIn K true) (tVar 11) (tVar 5))))) (te := (tTup (tCons (tVar 10) (tCons (tVar 11) tNil)))) (by rfl) sc_cut.nd (pi_tup (pe_fld (pe_dget hu (pv 0) (pv 10) (fun _ _ => rfl)) rfl)) (blkOk_by (own := [("other", 11)]) (N := N_cut) (sc := defScope s_cut) (by decide +kernel)) (fun _ _ _ _ _ => (pg_name (i := 11) sc_cut.nd rfl (Or.inl rfl))) (fun _ _ _ _ _ => pts_one (PW.pt (pw_and (pt_cmp (pc_din hu (pv 11) (pv 0)) (by rfl)) (pw_and1 (pt_cmpR op_notIn_seq (pv 11) (pv 5) (by rfl)))))) (fun _ _ _ _ _ => (pe_tup (pa_cons (pv 10) (pa_cons (pv 11) pa_nil))))) pa_nil)))))
(pss_one (ps_ret (pe_tup (pa_cons (pv 5) (pa_cons (pv 9) pa_nil)))))))))), ?_⟩
  obtain ⟨d, s, t, tk, p, rfl, pw, fa, hs, ht, hst, k⟩ := h
  intro du hdu
  have G := pw.graph
  have ud0 : UD (upd H du (.dT [])) du [] := ⟨[], upd_same, rfl⟩
  have s0 : Same H (upd H du (.dT [])) := Same.new hdu
  refine ⟨_, rfl, _, rfl, _, rfl, _, rfl, d, du, s, t, tk, p, [], rfl, pw, fa.same s0, ud0, .nil, (fun e h => by simp at h), hs, fun H1 r s1 hr => ?_⟩
  have entry : ∀ {H' : Hp} {r : Addr} {U : List Pr}, ((∃ rp rl w, H' r = some (.tup [.ref rp, .ref rl]) ∧ H' rp = some (.lst (nV w)) ∧ w.Nodup ∧ w.head? = some s ∧ lst w = t ∧ w.length ≤ 10 ∧ Steps p U w) ∨ ∃ rl R, H' r = some (.tup [.non, .ref rl]) ∧ H' rl = some (.lst (nV R)) ∧ R.Pairwise (· < ·) ∧ Side p s t U fun x => decide (x ∈ R)) → ∃ pv rl, H' r = some (.tup [pv, .ref rl]) ∧ CutE p s t U H' rl pv := by
    rintro H' r U (⟨rp, rl, w, e1, e2⟩ | ⟨rl, R, e1, e2⟩)
    · exact ⟨_, rl, e1, .inl ⟨rp, w, rfl, e2⟩⟩
    · exact ⟨_, rl, e1, .inr ⟨rfl, R, e2⟩⟩
  obtain ⟨pv, rl, er, ce⟩ := entry hr
  refine ⟨r, _, rfl, SqT.of er, rfl, _, _, rfl, _, _, rfl, rfl, ?_⟩
  refine ⟨CutW p H d s t du, ⟨10, [], 0, rl, pv, none, none, none, rfl, rfl, s0.trans s1, ud0.same s1, Flow.zero _ _ _, ce⟩, ?_⟩
  rintro m σ H2 ⟨U, k0, rl, pv, x6, x7, x8, rfl, rfl, s2, ud, F, ce⟩
  rcases ce with ⟨rp, w, rfl, hw, nw, hh, hl, l10, st⟩ | ⟨rfl, R, hR, upR, sd⟩
  · have F' := F.more nw st hh hl
    have bd := F'.bound G hst
    refine ⟨_, rfl, _, rfl, ?_⟩
    refine iteT ⟨fun σ' H' => ∃ m', m' < 10 - k0 ∧ CutW p H d s t du m' σ' H', fun _ _ z => z, ?_⟩
    have hw0 : w ≠ [] := fun z => by rw [z] at hh; cases hh
    have hl0 : 0 < w.length := by cases w with
      | nil => exact absurd rfl hw0
      | cons a r => simp
    refine ⟨_, rfl, rp, _, rfl, .inl (SqL.of hw), _, _, rfl, rfl, _, rfl, by rw [nV_len]; omega, by rw [nV_len]; omega, ?_⟩
    have en : ((((nV w).length : Nat) : Int) - 1).toNat = w.length - 1 := by rw [nV_len]; omega
    rw [en]
    have lU := flow_len pw F.nd F.ed
    have ndp : rp ≠ du := fun z => by obtain ⟨_, q, _⟩ := ud; rw [z, q] at hw; cases hw
    refine for_range (lo := 0) (n := w.length - 1) (fun i σ H' => ∃ x6 x7 x8 : Option V, σ = [some (.ref d), some (.int (s : Int)), some (.int (t : Int)), some (.ref du), some (.ref rp), some (.ref rl), x6, x7, x8, none, none, none] ∧ SameX du H2 H' ∧ UD H' du (augPath U (w.take (i + 1))) ∧ (augPath U (w.take (i + 1))).length ≤ 100 + i) ⟨x6, x7, x8, rfl, SameX.refl _ _, ?_⟩ ?_ ?_
    · have e0 : augPath U (w.take (0 + 1)) = U := by cases w with
        | nil => rfl
        | cons a r => rfl
      rw [e0]
      exact ⟨ud, by omega⟩
    · rintro i σ H3 hi ⟨x6, x7, x8, rfl, sx, ud3, l3⟩
      have e0 : (0 : Int) + (i : Int) = (i : Int) := by omega
      rw [e0]
      obtain ⟨a, ha⟩ : ∃ a, w[i]? = some a := ⟨w[i], List.getElem?_eq_getElem (by omega)⟩
      obtain ⟨b, hb⟩ : ∃ b, w[i + 1]? = some b := ⟨w[i + 1], List.getElem?_eq_getElem (by omega)⟩
      have ha' : (nV w)[i]? = some (V.int (a : Int)) := by rw [List.getElem?_map, ha]; rfl
      have hb' : (nV w)[i + 1]? = some (V.int (b : Int)) := by rw [List.getElem?_map, hb]; rfl
      have hw3 : H3 rp = some (.lst (nV w)) := sx _ _ ndp hw
      have ei : ((i : Int) + 1) = ((i + 1 : Nat) : Int) := by omega
      rw [aug_take ha hb]
      have la := aug_len (augPath U (w.take (i + 1))) a b
      generalize augPath U (w.take (i + 1)) = U3 at ud3 l3 la
      obtain ⟨kvs, k1, k2⟩ := id ud3
      have lk : kvs.length = U3.length := map_len k2
      refine ⟨_, rfl, _, rfl, rp, _, _, _, rfl, rfl, SqL.of hw3, atI_nat ha', _, rfl, _, rfl, _, _, rfl, rfl, rp, _, _, _, rfl, rfl, SqL.of hw3, by rw [ei]; exact atI_nat hb', _, _, rfl, ?_⟩
      refine ⟨_, rfl, _, rfl, by show 2 ≤ sizeLine; decide, fun q hq => ?_⟩
      have s4 : Same H3 (upd H3 q (.tup [.int (b : Int), .int (a : Int)])) := Same.new hq
      obtain ⟨o, go, ho⟩ := (ud3.same s4).get (x := b) (y := a) upd_same
      refine ⟨_, rfl, du, o, rfl, go, _, rfl, ?_⟩
      rw [ho]
      have sx4 := sx.more s4
      refine ite2 (fun c => ?_) (fun c => ?_)
      · have c' : (b, a) ∈ U3 := of_decide_eq_true c
        have s5 := fun q2 (hq2 : (upd H3 q (.tup [.int (b : Int), .int (a : Int)])) q2 = none) => s4.trans (Same.new (o := .tup [.int (b : Int), .int (a : Int)]) hq2)
        obtain ⟨v, hv⟩ := valV_some_of' (show prKey (b, a) ∈ kvs.map (·.1) by rw [k2]; exact prKey_mem.mpr c')
        refine ⟨_, rfl, .inr (.inr (.inl ⟨rfl, .inr ⟨_, s4 _ _ k1⟩⟩)), _, rfl, _, rfl, by show 2 ≤ sizeLine; decide, fun q2 hq2 => ?_⟩
        refine ⟨du, kvs, prKey (b, a), q2, v, rfl, rfl, s5 q2 hq2 _ _ k1, upd_same, hv, ?_⟩
        refine ⟨_, _, _, rfl, (sx.more (s5 q2 hq2)).put, ?_, by show _ ≤ 100 + (i + 1); omega⟩
        have := UD.pop (H := upd (upd H3 q (.tup [.int (b : Int), .int (a : Int)])) q2 (.tup [.int (b : Int), .int (a : Int)])) (du := du) k2 (b, a)
        unfold augStep
        rw [if_pos c']
        exact this
      · have c' : (b, a) ∉ U3 := fun z => c (decide_eq_true z)
        refine ⟨_, rfl, _, rfl, _, rfl, by show 2 ≤ sizeLine; decide, fun q2 hq2 => ?_⟩
        have s5 := s4.trans (Same.new (o := .tup [.int (a : Int), .int (b : Int)]) hq2)
        refine ⟨du, _, rfl, DPut.t (k := prKey (a, b)) (s5 _ _ k1) upd_same (lt_size (by omega)), ?_⟩
        refine ⟨_, _, _, rfl, (sx.more s5).put, ?_, by show _ ≤ 100 + (i + 1); omega⟩
        have := UD.put (H := upd (upd H3 q (.tup [.int (b : Int), .int (a : Int)])) q2 (.tup [.int (a : Int), .int (b : Int)])) (du := du) k2 (a, b) (.bl true)
        unfold augStep
        rw [if_neg c']
        exact this
    · rintro σ H3 ⟨x6, x7, x8, rfl, sx, ud3, l3⟩
      rw [show w.length - 1 + 1 = w.length by omega, List.take_length] at ud3 l3
      have s3 := sx.same s2 hdu
      refine ⟨_, rfl, _, rfl, _, rfl, _, rfl, d, du, s, t, tk, p, _, rfl, pw, fa.same s3, ud3, F'.nd, F'.ed, hs, fun H4 r s4 hr => ?_⟩
      obtain ⟨pv, rl, er, ce⟩ := entry hr
      exact ⟨r, _, rfl, SqT.of er, rfl, _, _, rfl, _, _, rfl, rfl, 10 - (k0 + 1), by omega, _, k0 + 1, rl, pv, x6, x7, x8, rfl, rfl, s3.trans s4, ud3.same s4, F', ce⟩
  · have RL : ∀ a ∈ R, a < 10 := fun a ha => pw.lt (sd.ex a (decide_eq_true ha))
    obtain ⟨m, hm, hb⟩ := mask_of 10 fun x => decide (x ∈ R)
    obtain ⟨e1, e2⟩ := leaving_eq pw upR RL hb
    have ec := cutOf_eq pw F sd ht hm hb
    have lR : R.length ≤ 10 := lt_of_nodup 10 _ (upR.imp fun h => Nat.ne_of_lt h) RL
    refine ⟨_, rfl, _, rfl, iteF ?_⟩
    refine ⟨by show 0 ≤ sizeLine; decide, fun ro hro => ?_⟩
    have s3 : Same H2 (upd H2 ro (.lst [])) := Same.new hro
    refine ⟨_, rfl, rl, rfl, ⟨_, SqL.of (s3 _ _ hR)⟩, for_list (K := K) (a := rl) (xs := nV R) (fun i σ H' => ∃ x10 x11 : Option V, σ = [some (.ref d), some (.int (s : Int)), some (.int (t : Int)), some (.ref du), some .non, some (.ref rl), x6, x7, x8, some (.ref ro), x10, x11] ∧ LcT prV H2 ro ((R.take i).flatMap (outAt p R)) H') ⟨none, none, rfl, LcT.start hro⟩ (fun i σ H' _ ⟨_, _, _, q⟩ => SqL.of (q.1 _ _ hR)) ?_ ?_⟩
    · rintro i y σ H3 hy ⟨x10, x11, rfl, lc⟩
      obtain ⟨a, ha, rfl⟩ := nV_at hy
      have aR := List.mem_of_getElem? ha
      obtain ⟨x, hx⟩ := doesExist_iff.mp (sd.ex a (decide_eq_true aR))
      have imp : Vbjbaj.importsOf p a = x.imports := importsOf_some hx
      have li : x.imports.length ≤ 10 := by have := G.size a; rwa [imp] at this
      obtain ⟨b, ga, dx, it, st, tt, ss, h1, h2, h3, h4, h5⟩ := (fa.same (s2.trans lc.1)).get hx
      refine ⟨_, rfl, .inl ⟨rfl, _, SqL.of lc.2.choose_spec.1⟩, ?_⟩
      refine ⟨_, rfl, _, rfl, d, _, rfl, ga, b, A.File, dx, _, _, rfl, h1, T.clF, T.nF_imports, fileF_imports it st tt, it, rfl, ⟨_, SqT.of h2⟩, fun D hD => ?_⟩
      refine lc_tup (K := K) (a := it) (xs := nV x.imports) (fun j H' => LcT prV H3 D (((x.imports.take j).filter fun b => Vbjbaj.doesExist p b && !decide (b ∈ R)).map fun b => (a, b)) H') (LcT.start hD) (fun i H' _ p => SqT.of (p.1 _ _ h2)) (fun j y H' hy pv => ?_) (fun H' pv => ?_)
      · obtain ⟨v, hv, rfl⟩ := nV_at hy
        obtain ⟨o, go, ho⟩ := (fa.same ((s2.trans lc.1).trans pv.1)).has v
        have ev := take_succ' hv
        have lj : (((x.imports.take j).filter fun b => Vbjbaj.doesExist p b && !decide (b ∈ R)).map fun b => (a, b)).length ≤ 100000 := by
          rw [List.length_map]
          refine Nat.le_trans (List.length_filter_le _ _) ?_
          rw [List.length_take]; omega
        refine ⟨rfl, _, rfl, _, rfl, d, o, rfl, go, _, rfl, ?_⟩
        rw [ho]
        refine ite2 (fun c => ?_) (fun c => ?_)
        · refine ⟨_, rfl, _, rfl, rl, _, rfl, .inl (SqL.of ((lc.1.trans pv.1) _ _ hR)), rfl, nV_flat _, _, rfl, ?_⟩
          show (if (!inV (V.int (v : Int)) (nV R)) = true then _ else _)
          rw [inV_nV]
          refine ite2 (fun c2 => ⟨_, rfl, _, rfl, by show 2 ≤ sizeLine; decide, fun q hq => ?_⟩) (fun c2 => ?_)
          · rw [ev, List.filter_append, List.filter_cons_of_pos (by rw [c, c2]; rfl), List.map_append]
            exact pv.push hD (Same.new hq) (y := .ref q) (a := (a, v)) ⟨q, rfl, upd_same⟩ lj
          · rw [ev, List.filter_append, List.filter_cons_of_neg (by rw [c]; simpa using c2), List.filter_nil, List.append_nil]
            exact pv
        · refine ite2 (fun c2 => absurd c2 (by decide)) (fun _ => ?_)
          rw [ev, List.filter_append, List.filter_cons_of_neg (by rw [Bool.not_eq_true] at c; rw [c]; simp), List.filter_nil, List.append_nil]
          exact pv
      · obtain ⟨s4, zs, hzs, rz⟩ := pv
        rw [nV_len, List.take_length, ← imp] at rz
        obtain ⟨acc', hacc', lacc, lc'⟩ := (lc.more s4).ext hro rz
        have l1 : zs.length ≤ 10 := by
          rw [Paired.len rz, List.length_map]
          exact Nat.le_trans (List.length_filter_le _ _) (by rw [imp]; exact li)
        have l2 : ((R.take i).flatMap (outAt p R)).length ≤ 100 := by
          have : ∀ l : List Nat, (l.flatMap (outAt p R)).length ≤ 10 * l.length := by
            intro l
            induction l with
            | nil => simp
            | cons a l ih =>
              rw [List.flatMap_cons, List.length_append, List.length_cons]
              have : (outAt p R a).length ≤ 10 := by
                unfold outAt
                rw [List.length_map]
                exact Nat.le_trans (List.length_filter_le _ _) (G.size a)
              omega
          have := this (R.take i)
          rw [List.length_take] at this
          omega
        refine ⟨ro, D, _, _, rfl, rfl, hacc', hzs, Nat.le_of_lt (lt_size (by omega)), ?_⟩
        refine ⟨_, _, rfl, ?_⟩
        rw [take_succ' ha, List.flatMap_append]
        have : [a].flatMap (outAt p R) = outAt p R a := by simp
        rw [this]
        exact lc'
    · rintro σ H3 ⟨x10, x11, rfl, lc⟩
      rw [nV_len, List.take_length, ← e2] at lc
      obtain ⟨s4, acc, hacc, racc⟩ := lc
      refine ⟨_, rfl, _, rfl, by show 2 ≤ sizeLine; decide, fun r hr => ?_⟩
      have s5 : Same H3 (upd H3 r (.tup [.ref rl, .ref ro])) := Same.new hr
      exact k _ r rl ro acc m (((s2.trans s4).trans s5)) upd_same (by rw [← e1]; exact s5 _ _ (s4 _ _ hR)) (s5 _ _ hacc) (Paired.mapP racc fun _ _ q => q.same s5) ec
end
end Sf
/-! W15: rings. -/
namespace Sf
open PySem PySem.Spec PyProof.Rows L2
open Vbjbaj (Statement File Project)
theorem itemsOf {K : PySem.W.Frag} {H : Hp} {F : V → Nat → Prop} : ∀ {acc : List V} {os : List Nat}, Paired (fun v g => ∃ b kv, v = .ref b ∧ H b = some (.tup [.int ((g : Nat) : Int), kv]) ∧ F kv g) acc os → ∃ (ps : List Addr) (kvs : List (Key × V)), acc = ps.map V.ref ∧ Paired (fun p (kv : Key × V) => SqT K H p [kV kv.1, kv.2]) ps kvs ∧ DKs kvs os ∧ Paired (fun (kv : Key × V) g => kv.1 = .inl ((g : Nat) : Int) ∧ F kv.2 g) kvs os
  | _, _, .nil => ⟨[], [], rfl, .nil, rfl, .nil⟩
  | _, _, .cons ⟨b, kv, h1, h2, h3⟩ t => by
    obtain ⟨ps, kvs, e1, e2, e3, e4⟩ := itemsOf (K := K) t
    refine ⟨b :: ps, (.inl _, kv) :: kvs, by rw [h1, e1]; rfl, .cons (SqT.of h2) e2, ?_, .cons ⟨rfl, h3⟩ e4⟩
    unfold DKs at e3 ⊢
    rw [List.map_cons, e3]
    rfl
theorem kvs_getG {F : V → Nat → Prop} : ∀ {kvs : List (Key × V)} {os : List Nat}, Paired (fun (kv : Key × V) g => kv.1 = .inl ((g : Nat) : Int) ∧ F kv.2 g) kvs os → os.Nodup → ∀ g, g ∈ os → ∃ v, valV kvs (.inl (g : Int)) = some v ∧ F v g
  | _, _, .nil, _, g, hg => by simp at hg
  | _, _, @Paired.cons _ _ _ kv n kvs os h t, nd, g, hg => by
    rw [List.nodup_cons] at nd
    by_cases c : g = n
    · subst c
      exact ⟨kv.2, valV_pos h.1, h.2⟩
    · obtain ⟨v, h1, h2⟩ := kvs_getG t nd.2 g ((List.mem_cons.mp hg).resolve_left c)
      refine ⟨v, ?_, h2⟩
      rw [valV_neg fun z => c ?_]
      · exact h1
      · rw [h.1] at z
        have := Sum.inl.inj z
        omega
/-- v is a list of these numbers, not the one at D -/
def LsV (D : Addr) (H : Hp) (v : V) (l : List Nat) : Prop := ∃ a, v = .ref a ∧ a ≠ D ∧ H a = some (.lst (nV l))
theorem LsV.same {D : Addr} {H H' : Hp} {v : V} {l : List Nat} (e : Same H H') (h : LsV D H v l) : LsV D H' v l := by
  obtain ⟨a, h1, h2, h3⟩ := h
  exact ⟨a, h1, h2, e _ _ h3⟩
theorem LsV.sx {D : Addr} {H H' : Hp} {v : V} {l : List Nat} (e : SameX D H H') (h : LsV D H v l) : LsV D H' v l := by
  obtain ⟨a, h1, h2, h3⟩ := h
  exact ⟨a, h1, h2, e _ _ h2 h3⟩
/-- an item (g, what it sees) -/
def SIt (p : Project) (D : Addr) (H : Hp) (v : V) (g : Nat) : Prop := ∃ b kv, v = .ref b ∧ H b = some (.tup [.int (g : Int), kv]) ∧ LsV D H kv (Vbjbaj.visible p g)
theorem SIt.same {p : Project} {D : Addr} (H H' : Hp) (v : V) (a : Nat) (e : Same H H') (h : SIt p D H v a) : SIt p D H' v a := by
  obtain ⟨b, kv, h1, h2, h3⟩ := h
  exact ⟨b, kv, h1, e _ _ h2, h3.same e⟩
theorem SIt.sx {p : Project} {D : Addr} (H H' : Hp) (v : V) (a : Nat) (l : List V) (hD : H D = some (.lst l)) (x : SameX D H H') (h : SIt p D H v a) : SIt p D H' v a := by
  obtain ⟨b, kv, h1, h2, h3⟩ := h
  exact ⟨b, kv, h1, x _ _ (fun z => by rw [z, hD] at h2; cases h2) h2, h3.sx x⟩
structure SDict (p : Project) (D : Addr) (H : Hp) (sd : Addr) (ks : List Nat) : Prop where
  ex : ∃ kvs, H sd = some (.dK kvs) ∧ ∀ g, g ∈ ks → ∃ v, valV kvs (.inl (g : Int)) = some v ∧ LsV D H v (Vbjbaj.visible p g)
theorem SDict.same {p : Project} {D : Addr} {H H' : Hp} {sd : Addr} {ks : List Nat} (e : Same H H') (h : SDict p D H sd ks) : SDict p D H' sd ks := by
  obtain ⟨kvs, h1, h2⟩ := h.ex
  exact ⟨kvs, e _ _ h1, fun g hg => by obtain ⟨v, q1, q2⟩ := h2 g hg; exact ⟨v, q1, q2.same e⟩⟩
theorem SDict.get {p : Project} {D : Addr} {H : Hp} {sd : Addr} {ks : List Nat} (h : SDict p D H sd ks) {g : Nat} (hg : g ∈ ks) : ∃ a, DGet H sd (.int (g : Int)) (some (.ref a)) ∧ H a = some (.lst (nV (Vbjbaj.visible p g))) := by
  obtain ⟨kvs, h1, h2⟩ := h.ex
  obtain ⟨v, q1, a, rfl, _, q2⟩ := h2 g hg
  refine ⟨a, ?_, q2⟩
  rw [← q1]
  exact DGet.k (k := .inl (g : Int)) h1
section
variable {P : Program} {w : World} {K : PySem.W.Frag} {mg : Str → Option Value} {base : Heap} {A : Ad}
def sp_rings (A : Ad) : Sp := fun vs H Q _ => ∃ (d : Addr) (tk : Nat) (p : Project) (kvs : List (Key × V)), vs = [.ref d] ∧ PWf tk p ∧ H d = some (.dK kvs) ∧ KF A.File H kvs p ∧
  ∀ H' r acc, Same H H' → H' r = some (.lst acc) → Paired (LsV r H') acc (Vbjbaj.ringsOf p) → Q (.ref r) H'
def RgN (p : Project) (Hb : Hp) (fl dd : Addr) (i : Nat) (H : Hp) : Prop :=
  Same Hb H ∧ (∃ acc, H fl = some (.lst acc) ∧ Paired (LsV fl H) acc (((exs p).take i).filterMap (ringIf p)) ∧ acc.length ≤ i) ∧ ∃ ts, DN H dd ts ∧ ts.Nodup ∧ ∀ x, x ∈ ts ↔ ∃ g ∈ (exs p).take i, x ∈ ringAt p g
theorem ok_rings (T : Txt K mg A) (C_seen : Cal P w K mg base CX0 3 "seen" ["files", "number"] (sp_seen A)) {f : Addr} {fd : FuncData} (F : Fun K "rings" "rings" s_rings f fd) : FnOk P w K mg base CX0 4 f fd ["files"] (sp_rings A) := by
  refine F.ok sc_rings (fun vs H Q E h => by obtain ⟨d, tk, p, kvs, rfl, _⟩ := h; rfl) (fun cdv A' outer s H vs Q E hr h => ?_)
  have hu := hu_of hr
  refine ⟨_, (pss_cons (ps_set (i := 1) sc_rings.nd rfl (Or.inr rfl) (pe_callTy (call_dictP rfl) (by rfl) T.b_dict (by decide +kernel) (pa_cons (pe_lock (pe_lc (own := [("number", 4)]) (g := (gName 4)) (tt := tYes) (te := (tTup (tCons (tVar 4) (tCons (tCall (sp_seen A) [] E0 (tCons (tVar 0) (tCons (tVar 4) tNil))) tNil)))) (by rfl) sc_rings.nd (pi_keys (pv 0)) (blkOk_by (own := [("number", 4)]) (N := N_rings) (sc := defScope s_rings) (by decide +kernel)) (fun _ _ _ _ _ => (pg_name (i := 4) sc_rings.nd rfl (Or.inl rfl))) (fun _ _ _ _ _ => pts_nil) (fun _ _ _ _ _ => (pe_tup (pa_cons (pv 4) (pa_cons (pe_cal C_seen (hr.mono (by decide)) pass0 (pa_cons (pv 0) (pa_cons (pv 4) pa_nil))) pa_nil)))))) pa_nil)))
(pss_cons (ps_par (i := 2) (j := 3) (by rfl) sc_rings.nd rfl rfl (by decide) rfl rfl (pa_cons (pe_lst pa_nil) (pa_cons pe_dnewK pa_nil)) (by rfl))
(pss_cons (ps_for PassesOwn.never rfl (pi_list (pe_callB (call_sortedDI rfl) (by rfl) T.b_sorted (by decide +kernel) (pa_cons (pv 0) pa_nil))) (pg_name (i := 4) sc_rings.nd rfl (Or.inr rfl)) (pss_one (ps_if (pt_cmp (pc_dnotin hu (pv 4) (pv 3)) (by rfl)) (pss_cons (ps_setLc (i := 5) (y := "ring") (own := [("other", 6)]) (g := (gName 6)) (tt := (tTest (tOp (rIn K false) (tVar 4) (tDGet (tVar 1) (tVar 6))))) (te := (tVar 6)) (by rfl) sc_rings.nd rfl rfl (sw_true rfl rfl rfl (by decide +kernel)) (pi_list (pe_dget hu (pv 1) (pv 4) (fun _ _ => rfl))) (blkOk_by (own := [("other", 6)]) (N := N_rings) (sc := defScope s_rings) (by decide +kernel)) (fun _ _ _ _ _ => (pg_name (i := 6) sc_rings.nd rfl (Or.inl rfl))) (fun _ _ _ _ _ => pts_one (pt_cmpR op_in_seq (pv 4) (pe_dget hu (pv 1) (pv 6) (fun _ _ => rfl)) (by rfl))) (fun _ _ _ _ _ => (pv 6)))
(pss_cons (ps_for PassesOwn.never rfl (pi_list (pv 5)) (pg_name (i := 6) sc_rings.nd rfl (Or.inl rfl)) (pss_one (ps_dput hu (pv 3) (pv 6) pe_bl rfl)))
(pss_one (ps_if (PW.pt (pw_or (pt_cmpR op_gt (pe_callB call_len_seq (by rfl) T.b_len (by decide +kernel) (pa_cons (pv 5) pa_nil)) pe_int (nomark _)) (pw_or1 (pt_cmpR op_in_seq (pv 4) (pe_fld (pe_dget hu (pv 0) (pv 4) (fun _ _ => rfl)) rfl) (by rfl))))) (pss_one (ps_expr (pe_bm PySem.F.plainAttrs_list PySem.F.slot_list_append PySem.F.type_list_append mt_append (pv 2) (pa_cons (pv 5) pa_nil)))) pss_nil)))) pss_nil)))
(pss_one (ps_ret (pv 2)))))), ?_⟩
  obtain ⟨d, tk, p, kvs, rfl, pw, hd, kf, k⟩ := h
  obtain ⟨ks, eks, mks⟩ := kf.ks
  have dks : DKs kvs ks := eks
  have nks : ks.Nodup := nodup_inl (by have := kf.nd; rwa [eks] at this)
  have ksx : ∀ g, g ∈ ks ↔ Vbjbaj.doesExist p g = true := fun g => mks g
  have lks : ks.length ≤ 10 := lt_of_nodup 10 _ nks fun g hg => pw.lt ((ksx g).mp hg)
  refine ⟨d, .dK kvs, hd, True.intro, fun od => ?_⟩
  have xl : SameND H (upd H d (.frz od (.dK kvs))) := SameND.lock hd
  have fa : FilesAt A.File H d p := ⟨kvs, .inl hd, kf⟩
  have fa1 := fa.lock (od := od) hd
  have hl1 : upd H d (.frz od (.dK kvs)) d = some (.frz od (.dK kvs)) := upd_same
  refine ⟨_, rfl, d, od, rfl, .inl ⟨kvs, hl1, fun D hD => ?_⟩⟩
  refine lc_it (walk_keys (d := d) (o := od) (kvs := kvs)) (fun i H' => LcR (SIt p D) (upd H d (.frz od (.dK kvs))) D (ks.take i) H') (LcR.start hD) (fun i H' _ pv => pv.1 _ _ hl1) ?_ ?_
  · rintro i y H2 H3 hi pv ⟨rfl, kk, v, hkv, rfl⟩
    obtain ⟨n, hn, rfl⟩ := keys_at' eks hkv
    have nx := (ksx n).mp (List.mem_of_getElem? hn)
    refine ⟨rfl, _, rfl, _, rfl, _, rfl, d, n, tk, p, rfl, pw.lt nx, pw, fa1.same pv.1, fun H4 r4 s4 hr0 hr4 => ?_⟩
    refine ⟨by show 2 ≤ sizeLine; decide, fun q hq => ?_⟩
    have s5 : Same H4 (upd H4 q (.tup [.int (n : Int), .ref r4])) := Same.new hq
    have nD : r4 ≠ D := fun z => by
      obtain ⟨_, acc, e, _⟩ := pv
      rw [z, e] at hr0
      cases hr0
    have := pv.push SIt.same SIt.sx hD (s4.trans s5) (y := .ref q) (a := n) ⟨q, .ref r4, rfl, upd_same, r4, rfl, nD, s5 _ _ hr4⟩ (by rw [List.length_take]; omega)
    rw [take_succ' hn]
    exact this
  intro H2 pv
  obtain ⟨s2, acc, hacc, racc⟩ := pv
  rw [dks.len, List.take_length] at racc
  refine ⟨s2 _ _ hl1, ?_⟩
  have s3 : Same H (upd H2 d (.dK kvs)) := Same.unlock s2 hd
  have hd2 := s2 _ _ hl1
  have nD : D ≠ d := fun z => by rw [z, hd2] at hacc; cases hacc
  have hacc3 : upd H2 d (.dK kvs) D = some (.lst acc) := by rw [upd_ne nD]; exact hacc
  have racc3 : Paired (SIt p D (upd H2 d (.dK kvs))) acc ks := Paired.mapP racc fun v g ⟨b, kv, e1, e2, a, e3, e4, e5⟩ => ⟨b, kv, e1, by rw [upd_ne fun z => by rw [z, hd2] at e2; cases e2]; exact e2, a, e3, e4, by rw [upd_ne fun z => by rw [z, hd2] at e5; cases e5]; exact e5⟩
  generalize upd H2 d (.dK kvs) = H3 at s3 hacc3 racc3
  obtain ⟨ps, kk, rfl, rps, dkk, rkk⟩ := itemsOf (K := K) (F := fun kv g => LsV D H3 kv (Vbjbaj.visible p g)) racc3
  have ndk : (kk.map (·.1)).Nodup := by rw [dkk]; exact inl_nodup nks
  refine ⟨D, ps, kk, rfl, SqL.of hacc3, rps, fun sd hsd => ?_⟩
  rw [mergeK_self ndk]
  have s4 : Same H3 (upd H3 sd (.dK kk)) := Same.new hsd
  have sdc : SDict p D (upd H3 sd (.dK kk)) sd ks := ⟨kk, upd_same, fun g hg => by obtain ⟨v, h1, h2⟩ := kvs_getG (F := fun kv g => LsV D H3 kv (Vbjbaj.visible p g)) rkk nks g hg; exact ⟨v, h1, h2.same s4⟩⟩
  have s04 := s3.trans s4
  generalize upd H3 sd (.dK kk) = H4 at s4 sdc s04
  refine ⟨by show 0 ≤ sizeLine; decide, fun fl hfl => ?_⟩
  intro dd hdd
  refine ⟨_, _, rfl, ?_⟩
  have nfd : fl ≠ dd := fun z => by rw [← z, upd_same] at hdd; cases hdd
  have hdd4 : H4 dd = none := by rwa [upd_ne nfd.symm] at hdd
  have rg0 : RgN p H4 fl dd 0 (upd (upd H4 fl (.lst [])) dd (.dK [])) := ⟨Same.put (Same.new hfl) hdd4, ⟨[], by rw [upd_ne nfd, upd_same], .nil, Nat.le_refl _⟩, [], ⟨[], upd_same, rfl⟩, .nil, fun x => by simp⟩
  have s05 : Same H4 (upd (upd H4 fl (.lst [])) dd (.dK [])) := rg0.1
  obtain ⟨kvs5, rd5, kf5⟩ := fa.same (s04.trans s05)
  obtain ⟨ksi, eki, k64, ksort⟩ := kf5.sorted pw
  refine ⟨_, rfl, d, kvs5, ksi, rfl, rd5, eki, k64, fun ys r0 hperm hsort hr0 => ?_⟩
  rw [ksort ys hperm hsort]
  have nr1 : r0 ≠ fl := fun z => by obtain ⟨_, ⟨acc, e, _⟩, _⟩ := rg0; rw [z, e] at hr0; cases hr0
  have nr2 : r0 ≠ dd := fun z => by obtain ⟨_, _, ts, ⟨kv, e, _⟩, _⟩ := rg0; rw [z, e] at hr0; cases hr0
  have rgm : ∀ {i : Nat} {H5 H6 : Hp}, RgN p H4 fl dd i H5 → Same H5 H6 → RgN p H4 fl dd i H6 := fun ⟨q1, ⟨acc, q2, q3, q4⟩, ts, q5, q6⟩ e => ⟨q1.trans e, ⟨acc, e _ _ q2, Paired.mapP q3 fun _ _ q => q.same e, q4⟩, ts, q5.same e, q6⟩
  have rg1 := rgm rg0 (Same.new (o := .lst (nV (exs p))) hr0)
  have er0 : upd (upd (upd H4 fl (.lst [])) dd (.dK [])) r0 (.lst (nV (exs p))) r0 = some (.lst (nV (exs p))) := upd_same
  generalize upd (upd (upd H4 fl (.lst [])) dd (.dK [])) r0 (.lst (nV (exs p))) = H5 at rg1 er0
  refine ⟨r0, rfl, ⟨_, SqL.of er0⟩, for_list (K := K) (a := r0) (xs := nV (exs p)) (fun i σ H' => ∃ x4 x5 x6 : Option V, σ = [some (.ref d), some (.ref sd), some (.ref fl), some (.ref dd), x4, x5, x6] ∧ RgN p H4 fl dd i H' ∧ H' r0 = some (.lst (nV (exs p)))) ⟨none, none, none, rfl, rg1, er0⟩ (fun i σ H' _ ⟨_, _, _, _, _, q⟩ => SqL.of q) ?_ ?_⟩
  · rintro i y σ H6 hy ⟨x4, x5, x6, rfl, rg, hr6⟩
    obtain ⟨n, hn, rfl⟩ := nV_at hy
    have nx := (mem_exs pw).mp (List.mem_of_getElem? hn)
    have ilt : i < (exs p).length := (List.getElem?_eq_some_iff.mp hn).1
    have l10 := exs_len p
    have ev := take_succ' hn
    obtain ⟨s6, ⟨acc, hacc, racc, lacc⟩, ts, dn, nts, mts⟩ := id rg
    obtain ⟨o, go, ho⟩ := dn.has n
    -- whether an earlier ring holds n
    have first : n ∉ ts ↔ (ringAt p n).headD n = n := by
      rw [ring_first pw nx, mts]
      have up := exs_up p
      have sp : exs p = (exs p).take i ++ (exs p).drop i := (List.take_append_drop i _).symm
      have dr : (exs p).drop i = n :: (exs p).drop (i + 1) := by
        have := List.drop_eq_getElem_cons ilt
        rw [(List.getElem?_eq_some_iff.mp hn).2] at this
        exact this
      rw [sp, dr] at up
      obtain ⟨u1, u2, u3⟩ := List.pairwise_append.mp up
      refine not_congr ⟨fun ⟨g, h1, h2⟩ => ⟨g, (mem_exs pw).mp (List.mem_of_mem_take h1), u3 g h1 n (by simp), h2⟩, fun ⟨g, h1, h2, h3⟩ => ⟨g, ?_, h3⟩⟩
      have gm := (mem_exs pw).mpr h1
      rw [sp, dr] at gm
      rcases List.mem_append.mp gm with h | h
      · exact h
      · rcases List.mem_cons.mp h with h | h
        · omega
        · have := (List.pairwise_cons.mp u2).1 g h
          omega
    refine ⟨_, rfl, _, rfl, dd, o, rfl, go, _, rfl, ?_⟩
    rw [ho]
    refine ite2 (fun c => ?_) (fun c => ?_)
    · have c' : n ∉ ts := by simpa using c
      obtain ⟨va, vg, vh⟩ := (sdc.same s6).get ((ksx n).mpr nx)
      refine ⟨_, rfl, _, rfl, sd, _, rfl, vg, va, rfl, ⟨_, SqL.of vh⟩, fun D2 hD2 => ?_⟩
      refine lc_list (K := K) (a := va) (xs := nV (Vbjbaj.visible p n)) (LcP H6 D2 (Fil (Vbjbaj.visible p n) (fun g => decide (n ∈ Vbjbaj.visible p g)) fun m : Nat => V.int (m : Int))) (LcP.start hD2 rfl) (fun i H' _ pv => SqL.of (pv.1 _ _ vh)) (fun i y H7 hy pv => ?_) (fun H7 pv => ?_)
      · obtain ⟨g, hg, rfl⟩ := nV_at hy
        have gx := (List.mem_filter.mp (List.mem_of_getElem? hg)).2
        obtain ⟨vb, wg, wh⟩ := (sdc.same (s6.trans pv.1)).get ((ksx g).mpr gx)
        refine ⟨rfl, _, rfl, _, rfl, _, rfl, sd, _, rfl, wg, vb, _, rfl, .inl (SqL.of wh), rfl, nV_flat _, _, rfl, ?_⟩
        show (if inV (V.int (n : Int)) (nV (Vbjbaj.visible p g)) = true then _ else _)
        rw [inV_nV]
        refine ite2 (fun c2 => ⟨_, rfl, ?_⟩) (fun c2 => ?_)
        · exact pv.push hD2 (Same.refl _) (Fil.yes hg c2) (Fil.lt (by have := visible_size (p := p) (f := n); omega))
        · exact pv.skip (Same.refl _) (Fil.no hg (by simpa using c2))
      obtain ⟨s7, e7⟩ := pv
      rw [nV_len, Fil.all] at e7
      have e7' : H7 D2 = some (.lst (nV (ringAt p n))) := e7
      have rg7 := rgm rg s7
      have nDf : D2 ≠ fl := fun z => by rw [z, hacc] at hD2; cases hD2
      have nDd : D2 ≠ dd := fun z => by obtain ⟨kv, e, _⟩ := dn; rw [z, e] at hD2; cases hD2
      have hr7 := s7 _ _ hr6
      have lring : (ringAt p n).length ≤ 10 := Nat.le_trans (List.length_filter_le _ _) visible_size
      refine ⟨_, rfl, D2, rfl, ⟨_, SqL.of e7'⟩, for_list (K := K) (a := D2) (xs := nV (ringAt p n)) (fun j σ H' => ∃ x6 : Option V, σ = [some (.ref d), some (.ref sd), some (.ref fl), some (.ref dd), some (.int (n : Int)), some (.ref D2), x6] ∧ SameX dd H7 H' ∧ ∃ tj, DN H' dd tj ∧ tj.Nodup ∧ tj.length ≤ ts.length + j ∧ ∀ x, x ∈ tj ↔ x ∈ ts ∨ x ∈ (ringAt p n).take j)
        ⟨_, rfl, SameX.refl _ _, ts, dn.same s7, nts, by omega, fun x => by simp⟩ (fun j σ H' _ ⟨_, _, q, _⟩ => SqL.of (q _ _ nDd e7')) ?_ ?_⟩
      · rintro j y σ H8 hy ⟨x6, rfl, sx, tj, dnj, ntj, ltj, mtj⟩
        obtain ⟨g, hg, rfl⟩ := nV_at hy
        have lts : ts.length ≤ 10 := lt_of_nodup 10 _ nts fun x hx => by
          obtain ⟨g, h1, h2⟩ := (mts x).mp hx
          exact pw.lt ((mem_ring pw ((mem_exs pw).mp (List.mem_of_mem_take h1))).mp h2).1
        have jlt : j < (ringAt p n).length := (List.getElem?_eq_some_iff.mp hg).1
        obtain ⟨o2, p1, p2⟩ := dnj.put (by omega) g (.bl true)
        refine ⟨_, rfl, _, rfl, dd, _, rfl, p1, ?_⟩
        refine ⟨_, rfl, sx.put, insN tj g, p2, insN_nodup ntj, by have := (insN_len (ts := tj) (n := g)).2; omega, fun x => ?_⟩
        rw [insN_mem, mtj, take_succ' hg, List.mem_append, List.mem_singleton, or_assoc]
      · rintro σ H8 ⟨x6, rfl, sx, tj, dnj, ntj, ltj, mtj⟩
        rw [nV_len, List.take_length] at mtj
        have e8 := sx _ _ nDd e7'
        have h8 : H8 fl = some (.lst acc) := sx _ _ nfd (s7 _ _ hacc)
        have r8 : Paired (LsV fl H8) acc (((exs p).take i).filterMap (ringIf p)) := Paired.mapP racc fun v l ⟨a, q1, q2, q3⟩ => ⟨a, q1, q2, sx _ _ (fun z => by obtain ⟨kv, e, _⟩ := dn; rw [z, e] at q3; cases q3) (s7 _ _ q3)⟩
        have s8 : Same H4 H8 := sx.same (s6.trans s7) hdd4
        have r08 : H8 r0 = some (.lst (nV (exs p))) := sx _ _ nr2 hr7
        have mt : ∀ x, x ∈ tj ↔ ∃ g ∈ (exs p).take (i + 1), x ∈ ringAt p g := fun x => by
          rw [mtj, mts, ev]
          constructor
          · rintro (⟨g, h1, h2⟩ | h)
            · exact ⟨g, List.mem_append_left _ h1, h2⟩
            · exact ⟨n, List.mem_append_right _ (by simp), h⟩
          · rintro ⟨g, h1, h2⟩
            rcases List.mem_append.mp h1 with h | h
            · exact .inl ⟨g, h, h2⟩
            · simp at h
              exact .inr (h ▸ h2)
        have hd := first.mp c'
        obtain ⟨x, hx⟩ := doesExist_iff.mp nx
        have imp : Vbjbaj.importsOf p n = x.imports := importsOf_some hx
        have yes : (1 < (ringAt p n).length ∨ (Vbjbaj.importsOf p n).contains n = true) → ((exs p).take (i + 1)).filterMap (ringIf p) = ((exs p).take i).filterMap (ringIf p) ++ [ringAt p n] := fun h => by
          rw [ev, List.filterMap_append]
          congr 1
          show (ringIf p n).toList = _
          unfold ringIf
          rw [if_pos ⟨hd, h⟩]
          rfl
        have no : ¬ (1 < (ringAt p n).length ∨ (Vbjbaj.importsOf p n).contains n = true) → ((exs p).take (i + 1)).filterMap (ringIf p) = ((exs p).take i).filterMap (ringIf p) := fun h => by
          rw [ev, List.filterMap_append]
          have : ringIf p n = none := if_neg fun z => h z.2
          rw [show [n].filterMap (ringIf p) = (ringIf p n).toList from rfl, this]
          exact List.append_nil _
        have app : (1 < (ringAt p n).length ∨ (Vbjbaj.importsOf p n).contains n = true) → RgN p H4 fl dd (i + 1) (upd H8 fl (.lst (acc ++ [.ref D2]))) := fun h => by
          have sf : SameX fl H8 (upd H8 fl (.lst (acc ++ [.ref D2]))) := (SameX.refl fl H8).put
          refine ⟨Same.put s8 hfl, ⟨_, upd_same, ?_, by simp; omega⟩, tj, ?_, ntj, mt⟩
          · rw [yes h]
            exact Paired.snoc ⟨D2, rfl, nDf, sf _ _ nDf e8⟩ (Paired.mapP r8 fun _ _ q => q.sx sf)
          · obtain ⟨kv, e1, e2⟩ := dnj
            exact ⟨kv, sf _ _ nfd.symm e1, e2⟩
        refine ⟨_, rfl, _, _, rfl, .inl (SqL.of e8), _, _, rfl, rfl, _, rfl, ?_⟩
        rw [nV_len]
        have lcc : acc.length < sizeLine := lt_size (by omega)
        refine ite2 (fun c2 => ?_) (fun c2 => ?_)
        · have c3 : 1 < (ringAt p n).length := by
            have := of_decide_eq_true c2
            omega
          refine iteT ⟨_, rfl, .inl ⟨rfl, _, SqL.of h8⟩, _, rfl, fl, _, _, rfl, rfl, h8, lcc, ?_⟩
          exact ⟨_, _, _, rfl, app (.inl c3), by rw [upd_ne nr1]; exact r08⟩
        · have c3 : ¬ 1 < (ringAt p n).length := fun z => c2 (decide_eq_true (by omega))
          obtain ⟨b, ga, dx, it, st, tt, ss, h1, h2, h3, h4, h5⟩ := ((fa.same s04).same s8).get hx
          refine ⟨_, rfl, _, rfl, _, rfl, d, _, rfl, ga, b, A.File, dx, _, _, rfl, h1, T.clF, T.nF_imports, fileF_imports it st tt, it, _, rfl, .inr (SqT.of h2), rfl, nV_flat _, _, rfl, ?_⟩
          show (if inV (V.int (n : Int)) (nV x.imports) = true then _ else _)
          rw [inV_nV, ← imp]
          refine ite2 (fun c4 => ?_) (fun c4 => ?_)
          · refine ⟨_, rfl, .inl ⟨rfl, _, SqL.of h8⟩, _, rfl, fl, _, _, rfl, rfl, h8, lcc, ?_⟩
            exact ⟨_, _, _, rfl, app (.inr (by rw [List.contains_eq_mem]; exact c4)), by rw [upd_ne nr1]; exact r08⟩
          · refine ⟨_, _, _, rfl, ⟨s8, ⟨acc, h8, ?_, by omega⟩, tj, dnj, ntj, mt⟩, r08⟩
            rw [no fun z => z.elim c3 fun q => c4 (by rw [List.contains_eq_mem] at q; exact q)]
            exact r8
    · have c' : n ∈ ts := by
        by_cases q : n ∈ ts
        · exact q
        · rw [decide_eq_false q] at c
          exact absurd rfl c
      have nohd : ¬ (ringAt p n).headD n = n := fun z => first.mpr z c'
      refine ⟨_, _, _, rfl, ⟨s6, ⟨acc, hacc, ?_, by omega⟩, ts, dn, nts, fun x => ?_⟩, hr6⟩
      · have : ringIf p n = none := if_neg fun z => nohd z.1
        rw [ev, List.filterMap_append, show [n].filterMap (ringIf p) = (ringIf p n).toList from rfl, this]
        show Paired _ _ (_ ++ [])
        rw [List.append_nil]
        exact racc
      · rw [mts, ev]
        constructor
        · rintro ⟨g, h1, h2⟩
          exact ⟨g, List.mem_append_left _ h1, h2⟩
        · rintro ⟨g, h1, h2⟩
          rcases List.mem_append.mp h1 with h | h
          · exact ⟨g, h, h2⟩
          · simp at h
            subst h
            obtain ⟨g', h3, h4⟩ := (mts g).mp c'
            exact ⟨g', h3, ring_trans pw ((mem_exs pw).mp (List.mem_of_mem_take h3)) h4 h2⟩
  · rintro σ H6 ⟨x4, x5, x6, rfl, ⟨s6, ⟨acc, hacc, racc, _⟩, _⟩, hr6⟩
    rw [nV_len, List.take_length] at racc
    exact ⟨_, rfl, k H6 fl acc (s04.trans s6) hacc (by rw [ringsOf_eq]; exact racc)⟩
end
end Sf
/-! W16: Refused, need. -/
namespace Sf
open PySem PySem.Spec PyProof.Rows L2
open Vbjbaj (Statement File Project)
/-- the way out with a code -/
def Fails (A : Ad) (H : Hp) (c : Int) (E : XK) : Prop := ∀ (H' : Hp) (d : Addr), Same H H' → H' d = some (.xd [(("code" : Str), .int c)]) → E (.ref A.Refused) (some d) H'
theorem Fails.after {A : Ad} {H H1 : Hp} {c : Int} {E : XK} (h : Fails A H c E) (s : Same H H1) : Fails A H1 c E := fun H' d s' e => h H' d (s.trans s') e
section
variable {P : Program} {w : World} {K : PySem.W.Frag} {mg : Str → Option Value} {base : Heap} {A : Ad}
def sp_Refused_init (A : Ad) : Sp := fun vs H Q _ => ∃ (a : Addr) (c : Int), vs = [.ref a, .int c] ∧ H a = some (exo a A.Refused none) ∧ ∀ dx, H dx = none → dx ≠ a → Q .non (upd (upd H dx (exd dx [(("code" : Str), .int c)])) a (exo a A.Refused (some dx)))
theorem ok_Refused_init (T : Txt K mg A) {f : Addr} {fd : FuncData} (F : Fun K "__init__" "Refused.__init__" s_Refused_init f fd) : FnOk P w K mg base CX0 1 f fd ["self", "code"] (sp_Refused_init A) := by
  refine F.ok sc_Refused_init (fun vs H Q E h => by obtain ⟨a, c, rfl, _⟩ := h; rfl) (fun cdv A' outer s H vs Q E hr h => ?_)
  refine ⟨_, pss_one (ps_ost (pv 0) (pv 1)), ?_⟩
  obtain ⟨a, c, rfl, ha, k⟩ := h
  exact ⟨_, rfl, _, rfl, a, A.Refused, rfl, T.oR, T.nR_code, .inl ⟨ha, fun dx h1 h2 => k dx h1 h2⟩⟩
def sp_need (A : Ad) : Sp := fun vs H Q E => ∃ (b : Bool) (c : Int), vs = [.bl b, .int c] ∧ (b = true → Q .non H) ∧ (b = false → Fails A H c E)
theorem ok_need (T : Txt K mg A) {f : Addr} {fd : FuncData} (F : Fun K "need" "need" s_need f fd) : FnOk P w K mg base (L2.CX P w) 3 f fd ["is_right", "code"] (sp_need A) := by
  obtain ⟨fI, fdI, i1, i2, FI, bI⟩ := T.iR
  refine F.okX sc_need (fun vs H Q E h => by obtain ⟨b, c, rfl, _⟩ := h; rfl) (fun cdv A' outer s H vs Q E hr h => ?_)
  refine ⟨_, (pss_one (ps_if (pt_not (pt_val (pv 0))) (pss_one (ps_raise rfl (takes_of rfl rfl rfl rfl) (W := fun cls d _ H => E cls d H) (pmk_oex T.oR i1 i2 (ok_Refused_init T FI) hr bI .nil pass0 rfl T.gR (pa_cons (pv 1) pa_nil)))) pss_nil)), ?_⟩
  obtain ⟨b, c, rfl, k1, k2⟩ := h
  refine ⟨_, rfl, _, rfl, ?_⟩
  cases b with
  | true => exact iteF (k1 rfl)
  | false =>
    refine iteT ⟨_, rfl, by show 1 ≤ 1000; decide, fun a ha => ⟨a, c, rfl, upd_same, fun dx h1 h2 => ⟨rfl, dx, [(("code" : Str), .int c)], upd_same, ?_, ?_, ?_⟩⟩⟩
    · rw [upd_ne h2, upd_same]
    · rwa [upd_ne h2] at h1
    · have hd : H dx = none := by rwa [upd_ne h2] at h1
      refine k2 rfl _ dx (fun b o e => ?_) upd_same
      have n1 : b ≠ dx := ne_of_none e hd
      have n2 : b ≠ a := ne_of_none e ha
      rw [upd_ne n1, del_ne n2, upd_ne n2, upd_ne n1, upd_ne n2]
      exact e
end
end Sf
/-! W17: a project in the heap; its plain methods; listed, flat. -/
namespace Sf
open PySem PySem.Spec PyProof.Rows L2
open Vbjbaj (Statement File Project State Readings)
/-- a method that keeps a promise -/
def MCal (P : Program) (w : World) (K : PySem.W.Frag) (mg : Str → Option Value) (base : Heap) (CX : CXT) (k : Nat) (C : Addr) (m : Str) (ps : List Str) (sp : Sp) : Prop :=
  ∃ (f : Addr) (fd : FuncData), Meth K C m f ∧ Binds K fd ps [] ∧ FnOk P w K mg base CX k f fd ps sp
theorem pe_mcal {X : Cx} {CX : CXT} {k : Nat} {C : Addr} {m : Str} {ps : List Str} {sp : Sp} {E : XK} {pl : Sem Bool} {o e : Expr} {es : List Expr} {ta : TE} {t : TA} {apos pos : Pos}
    (M : MCal X.prog X.w X.K X.mg X.base CX k C m ps sp) (c : Cls X.K C) (he : PE X o ta) (hr : Room k X.A) (hx : Passes CX X E) (ha : PA X (e :: es) t)
    (hst : starEach (e :: es) X.env = (false, eval e X.env) :: starEach es X.env := by rfl) (hpl : (backTo pos (starEach es X.env)).any (·.1) = false := by rfl)
    (ht : eval (.Call (.Attribute o m apos) (e :: es) [] pos) X.env = (do
      let ov ← eval o X.env
      standAt apos.atName
      let (f, first) ← holding [ov] (getMethod ov m pl)
      callWith pos f first (backTo pos (starEach (e :: es) X.env)) (backToKw pos (keywordEach [] X.env))) := by rfl) :
    PE X (.Call (.Attribute o m apos) (e :: es) [] pos) (tMeth C m sp [] E ta t) := by
  obtain ⟨f, fd, hm, hb, F⟩ := M
  exact pe_meth he c hm F hr hb .nil hx ha hst hpl ht
theorem mcal_of {P : Program} {w : World} {K : PySem.W.Frag} {mg : Str → Option Value} {base : Heap} {CX : CXT} {k : Nat} {C : Addr} {m qual : Str} {st : Stmt} {ps : List Str} {sp : Sp} (D : MethAt K C m qual st ps) (h : ∀ f fd, Fun K m qual st f fd → FnOk P w K mg base CX k f fd ps sp) : MCal P w K mg base CX k C m ps sp := by
  obtain ⟨f, fd, hm, F, hb⟩ := D
  exact ⟨f, fd, hm, hb, h f fd F⟩
abbrev rV (l : List Int) : List V := l.map V.int
theorem rV_ints (l : List Nat) : rV (Vbjbaj.ints l) = nV l := by
  unfold Vbjbaj.ints
  rw [rV, List.map_map]
  rfl
/-- lists and tuples stay as they were -/
def SameL (H H' : Hp) : Prop := ∀ a xs, (H a = some (.lst xs) → H' a = some (.lst xs)) ∧ (H a = some (.tup xs) → H' a = some (.tup xs)) ∧ ∀ o u, H a = some (.frz o u) → H' a = some (.frz o u)
theorem SameL.of {H H' : Hp} (h : Same H H') : SameL H H' := fun a xs => ⟨fun e => h _ _ e, fun e => h _ _ e, fun _ _ e => h _ _ e⟩
theorem SameL.trans {H H1 H2 : Hp} (h : SameL H H1) (h' : SameL H1 H2) : SameL H H2 := fun a xs => ⟨fun e => (h' a xs).1 ((h a xs).1 e), fun e => (h' a xs).2.1 ((h a xs).2.1 e), fun o u e => (h' a xs).2.2 o u ((h a xs).2.2 o u e)⟩
def projF (t : Nat) (df kd bl : Addr) : List (Str × V) := [("tokens", .int (t : Int)), ("files", .ref df), ("kept", .ref kd), ("before", .ref bl)]
theorem projF_tokens (t : Nat) (df kd bl : Addr) : (projF t df kd bl).lookup ("tokens" : Str) = some (.int (t : Int)) := look_hit _
theorem projF_files (t : Nat) (df kd bl : Addr) : (projF t df kd bl).lookup ("files" : Str) = some (.ref df) := (look_miss _ (by decide +kernel)).trans (look_hit _)
theorem projF_kept (t : Nat) (df kd bl : Addr) : (projF t df kd bl).lookup ("kept" : Str) = some (.ref kd) := (look_miss _ (by decide +kernel)).trans ((look_miss _ (by decide +kernel)).trans (look_hit _))
theorem projF_before (t : Nat) (df kd bl : Addr) : (projF t df kd bl).lookup ("before" : Str) = some (.ref bl) := (look_miss _ (by decide +kernel)).trans ((look_miss _ (by decide +kernel)).trans ((look_miss _ (by decide +kernel)).trans (look_hit _)))
theorem projF_none {m : Str} (h1 : (m == ("tokens" : Str)) = false) (h2 : (m == ("files" : Str)) = false) (h3 : (m == ("kept" : Str)) = false) (h4 : (m == ("before" : Str)) = false) (t : Nat) (df kd bl : Addr) : (projF t df kd bl).lookup m = none :=
  (look_miss _ h1).trans ((look_miss _ h2).trans ((look_miss _ h3).trans ((look_miss _ h4).trans rfl)))
def FilesU (C : Addr) (H : Hp) (d : Addr) (p : Project) : Prop := ∃ kvs, H d = some (.dK kvs) ∧ KF C H kvs p
theorem FilesU.at_ {C : Addr} {H : Hp} {d : Addr} {p : Project} (h : FilesU C H d p) : FilesAt C H d p := by
  obtain ⟨kvs, h1, h2⟩ := h
  exact ⟨kvs, .inl h1, h2⟩
theorem FilesU.same {C : Addr} {H H' : Hp} {d : Addr} {p : Project} (e : Same H H') (h : FilesU C H d p) : FilesU C H' d p := by
  obtain ⟨kvs, h1, h2⟩ := h
  exact ⟨kvs, e _ _ h1, h2.same e⟩
/-- what has been read -/
def Kept (H : Hp) (kd : Addr) (r : Readings) : Prop := ∃ (kvs : List (Key × V)) (ks : List Nat), H kd = some (.dK kvs) ∧ DKs kvs ks ∧ ks.Nodup ∧ (∀ g ∈ ks, g < 10) ∧
  ∀ f, f < 10 → (r.getD f none = none ∧ valV kvs (.inl (f : Int)) = none) ∨ ∃ v k, valV kvs (.inl (f : Int)) = some v ∧ r.getD f none = some k ∧ KeyV H v k
theorem Kept.same {H H' : Hp} {kd : Addr} {r : Readings} (e : Same H H') (h : Kept H kd r) : Kept H' kd r := by
  obtain ⟨kvs, ks, h1, h2, h3, h4, h5⟩ := h
  exact ⟨kvs, ks, e _ _ h1, h2, h3, h4, fun f hf => (h5 f hf).imp_right fun ⟨v, k, q1, q2, q3⟩ => ⟨v, k, q1, q2, q3.same e⟩⟩
theorem Kept.get {H : Hp} {kd : Addr} {r : Readings} (h : Kept H kd r) {f : Nat} (hf : f < 10) : (r.getD f none = none ∧ DGet H kd (.int (f : Int)) none) ∨ ∃ v k, DGet H kd (.int (f : Int)) (some v) ∧ r.getD f none = some k ∧ KeyV H v k := by
  obtain ⟨kvs, ks, h1, h2, h3, h4, h5⟩ := h
  rcases h5 f hf with ⟨q1, q2⟩ | ⟨v, k, q1, q2, q3⟩
  · exact .inl ⟨q1, by rw [← q2]; exact DGet.k (k := .inl (f : Int)) h1⟩
  · exact .inr ⟨v, k, by rw [← q1]; exact DGet.k (k := .inl (f : Int)) h1, q2, q3⟩
def Bef (C : Addr) (H : Hp) (bl kd : Addr) (past : List Project) : Prop := ∃ vs, H bl = some (.lst vs) ∧ Paired (fun v q => ∃ d, v = .ref d ∧ d ≠ kd ∧ FilesU C H d q) vs past.reverse
theorem Bef.same {C : Addr} {H H' : Hp} {bl kd : Addr} {past : List Project} (e : Same H H') (h : Bef C H bl kd past) : Bef C H' bl kd past := by
  obtain ⟨vs, h1, h2⟩ := h
  exact ⟨vs, e _ _ h1, Paired.mapP h2 fun _ _ ⟨d, q1, q0, q2⟩ => ⟨d, q1, q0, q2.same e⟩⟩
structure StOk (s : State) : Prop where
  pw : PWf s.tokens s.project
  rl : s.readings.length = 10
  pp : ∀ q ∈ s.past, PWf s.tokens q
  pl : s.past.length ≤ 20
structure PjI (A : Ad) (H : Hp) (pa dx df kd bl : Addr) (s : State) : Prop where
  ob : H pa = some (.ins A.Project dx (projF s.tokens df kd bl))
  fu : FilesU A.File H df s.project
  ke : Kept H kd s.readings
  be : Bef A.File H bl kd s.past
  ne : df ≠ kd
theorem PjI.same {A : Ad} {H H' : Hp} {pa dx df kd bl : Addr} {s : State} (e : Same H H') (h : PjI A H pa dx df kd bl s) : PjI A H' pa dx df kd bl s := ⟨e _ _ h.ob, h.fu.same e, h.ke.same e, h.be.same e, h.ne⟩
def PjAt (A : Ad) (H : Hp) (pa : Addr) (s : State) : Prop := StOk s ∧ ∃ dx df kd bl, PjI A H pa dx df kd bl s
theorem PjAt.same {A : Ad} {H H' : Hp} {pa : Addr} {s : State} (e : Same H H') (h : PjAt A H pa s) : PjAt A H' pa s := by
  obtain ⟨h1, dx, df, kd, bl, h2⟩ := h
  exact ⟨h1, dx, df, kd, bl, h2.same e⟩
theorem pendingOf_eq (p : Project) (r : Readings) : Vbjbaj.pendingOf p r = (exs p).filter fun f => Vbjbaj.keyOf p f != r.getD f none := by
  unfold Vbjbaj.pendingOf exs
  rw [List.filter_filter]
  refine List.filter_congr fun f _ => ?_
  rw [Bool.and_comm]
section
variable {P : Program} {w : World} {K : PySem.W.Frag} {mg : Str → Option Value} {base : Heap} {A : Ad}
def sp_pending (A : Ad) : Sp := fun vs H Q _ => ∃ (pa fd dx df kd bl : Addr) (tk tk' : Nat) (p : Project) (r : Readings), vs = [.ref pa, .ref fd] ∧ H pa = some (.ins A.Project dx (projF tk df kd bl)) ∧ Kept H kd r ∧ PWf tk' p ∧ FilesAt A.File H fd p ∧
  ∀ H' q, Same H H' → H q = none → H' q = some (.lst (nV (Vbjbaj.pendingOf p r))) → Q (.ref q) H'
theorem ok_pending (T : Txt K mg A) (C_key : Cal P w K mg base CX0 6 "key" ["files", "number"] (sp_key A)) {f : Addr} {fd : FuncData} (F : Fun K "pending" "Project.pending" s_Project_pending f fd) : FnOk P w K mg base CX0 7 f fd ["self", "files"] (sp_pending A) := by
  refine F.ok sc_Project_pending (fun vs H Q E h => by obtain ⟨pa, fd, dx, df, kd, bl, tk, tk', p, r, rfl, _⟩ := h; rfl) (fun cdv A' outer s H vs Q E hr h => ?_)
  have hu := hu_of hr
  have hu64 := hu64_of hr
  refine ⟨_, (pss_one (ps_ret (pe_lc (own := [("at", 2)]) (g := (gName 2)) (tt := (tOr (tB (tDNotIn (tVar 2) (tFld K (tVar 0) "kept"))) (tTest (tOp (rNeD K) (tDGet (tFld K (tVar 0) "kept") (tVar 2)) (tCall (sp_key A) [] E0 (tCons (tVar 1) (tCons (tVar 2) tNil))))))) (te := (tVar 2)) (by rfl) sc_Project_pending.nd (pi_list (pe_callB (call_sortedDI rfl) (by rfl) T.b_sorted (by decide +kernel) (pa_cons (pv 1) pa_nil))) (blkOk_by (own := [("at", 2)]) (N := N_Project_pending) (sc := defScope s_Project_pending) (by decide +kernel)) (fun _ _ _ _ _ => (pg_name (i := 2) sc_Project_pending.nd rfl (Or.inl rfl))) (fun _ _ _ _ _ => pts_one (PW.pt (pw_or (pt_cmp (pc_dnotin hu (pv 2) (pe_fld (pv 0) rfl)) (by rfl)) (pw_or1 (pt_cmpR (op_neD hu64) (pe_dget hu (pe_fld (pv 0) rfl) (pv 2) (fun _ _ => rfl)) (pe_cal C_key (hr.mono (by decide)) pass0 (pa_cons (pv 1) (pa_cons (pv 2) pa_nil))) (nomark _)))))) (fun _ _ _ _ _ => (pv 2))))), ?_⟩
  obtain ⟨pa, fd, dx, df, kd, bl, tk, tk', p, r, rfl, ho, ke, pw, fa, k⟩ := h
  obtain ⟨kvs, rd, kf⟩ := id fa
  obtain ⟨ks, ek, k64, ksort⟩ := kf.sorted pw
  refine ⟨_, rfl, fd, kvs, ks, rfl, rd, ek, k64, fun ys r0 hperm hsort hr0 => ?_⟩
  rw [ksort ys hperm hsort]
  have s0 : Same H (upd H r0 (.lst (nV (exs p)))) := Same.new hr0
  have e0 : upd H r0 (.lst (nV (exs p))) r0 = some (.lst (nV (exs p))) := upd_same
  generalize upd H r0 (.lst (nV (exs p))) = H0 at s0 e0
  have l10 := exs_len p
  refine ⟨r0, rfl, ⟨_, SqL.of e0⟩, fun D hD => lc_list (K := K) (a := r0) (xs := nV (exs p)) (LcP H0 D (Fil (exs p) (fun f => Vbjbaj.keyOf p f != r.getD f none) fun n : Nat => V.int (n : Int))) (LcP.start hD rfl) (fun i H' _ pv => SqL.of (pv.1 _ _ e0)) (fun i y H1 hy pv => ?_) (fun H1 pv => ?_)⟩
  · obtain ⟨g, hg, rfl⟩ := nV_at hy
    have gx := (mem_exs pw).mp (List.mem_of_getElem? hg)
    obtain ⟨x, hx⟩ := doesExist_iff.mp gx
    have hk := key_some hx
    have s1 := s0.trans pv.1
    have lt : (Fil (exs p) (fun f => Vbjbaj.keyOf p f != r.getD f none) (fun n : Nat => V.int (n : Int)) i).length < sizeLine := Fil.lt (by omega)
    rcases (ke.same s1).get (pw.lt gx) with ⟨q1, q2⟩ | ⟨v, kk, q1, q2, q3⟩
    · refine ⟨rfl, _, rfl, _, rfl, pa, A.Project, dx, _, _, rfl, s1 _ _ ho, T.clP, T.nP_kept, projF_kept _ _ _ _, kd, none, rfl, q2, _, rfl, ?_⟩
      refine iteT (iteT ⟨_, rfl, ?_⟩)
      exact pv.push hD (Same.refl _) (Fil.yes hg (by rw [hk, q1]; rfl)) lt
    · refine ⟨rfl, _, rfl, _, rfl, pa, A.Project, dx, _, _, rfl, s1 _ _ ho, T.clP, T.nP_kept, projF_kept _ _ _ _, kd, some v, rfl, q1, _, rfl, ?_⟩
      refine iteF ?_
      refine ⟨_, rfl, pa, A.Project, dx, _, _, rfl, s1 _ _ ho, T.clP, T.nP_kept, projF_kept _ _ _ _, _, rfl, kd, v, rfl, q1, ?_⟩
      refine ⟨_, rfl, _, rfl, fd, g, tk', p, _, rfl, hk, pw, fa.same s1, fun H2 r2 s2 kv2 => ?_⟩
      refine ⟨keyD _, keyD _, dp_key (q3.same s2), dp_key kv2, key_shaped _, key_shaped _, _, rfl, ?_⟩
      rw [eqv_key]
      refine ite2 (fun c => ⟨_, rfl, ?_⟩) (fun c => ?_)
      · refine pv.push hD s2 (Fil.yes hg ?_) lt
        rw [hk, q2, bne_iff_ne]
        intro z
        rw [← Option.some.inj z] at c
        simp at c
      · refine pv.skip s2 (Fil.no hg ?_)
        have : kk = ⟨x.text, Vbjbaj.relevantOf p g⟩ := by simpa using c
        rw [hk, q2, this]
        exact bne_self_eq_false _
  · obtain ⟨s1, e1⟩ := pv
    rw [nV_len, Fil.all, ← pendingOf_eq] at e1
    exact k H1 D (s0.trans s1) (s0.free hD) e1
def sp_listed (K : PySem.W.Frag) : Sp := fun vs H Q _ => ∃ (p : Addr) (l : List Nat), vs = [.ref p] ∧ (SqL K H p (nV l) ∨ SqT K H p (nV l)) ∧ l.length ≤ 1000 ∧ ∀ H' r, Same H H' → H r = none → H' r = some (.lst (rV (Vbjbaj.counted l))) → Q (.ref r) H'
theorem ok_listed (T : Txt K mg A) {f : Addr} {fd : FuncData} (F : Fun K "listed" "listed" s_listed f fd) : FnOk P w K mg base CX0 1 f fd ["some"] (sp_listed K) := by
  refine F.ok sc_listed (fun vs H Q E h => by obtain ⟨p, l, rfl, _⟩ := h; rfl) (fun cdv A' outer s H vs Q E hr h => ?_)
  refine ⟨_, (pss_one (ps_ret (pe_op op_cat (pe_lst (pa_cons (pe_callB call_len_seq (by rfl) T.b_len (by decide +kernel) (pa_cons (pv 0) pa_nil)) pa_nil)) (pe_callTy call_list_of (by rfl) T.b_list (by decide +kernel) (pa_cons (pv 0) pa_nil))))), ?_⟩
  obtain ⟨p, l, rfl, hp, hl, k⟩ := h
  refine ⟨_, rfl, p, _, rfl, hp, by show 1 ≤ sizeLine; decide, fun q1 hq1 => ?_⟩
  have s1 : Same H (upd H q1 (.lst [.int ((nV l).length : Nat)])) := Same.new hq1
  have hp1 : SqL K (upd H q1 (.lst [.int ((nV l).length : Nat)])) p (nV l) ∨ SqT K (upd H q1 (.lst [.int ((nV l).length : Nat)])) p (nV l) := hp.imp (fun z => Same.seq s1 z) fun z => Same.tupq s1 z
  refine ⟨_, rfl, p, _, rfl, hp1, fun q2 hq2 => ?_⟩
  have n12 : q1 ≠ q2 := fun z => by rw [← z, upd_same] at hq2; cases hq2
  refine ⟨q1, q2, _, _, rfl, rfl, by rw [upd_ne n12, upd_same], upd_same, by rw [nV_len]; exact Nat.le_of_lt (lt_size (by simp; omega)), fun r hr => ?_⟩
  refine k _ r ((s1.trans (Same.new hq2)).trans (Same.new hr)) ((s1.trans (Same.new hq2)).free hr) ?_
  rw [upd_same]
  unfold Vbjbaj.counted
  rw [rV, List.map_cons, nV_len]
  have := rV_ints l
  rw [rV] at this
  rw [this]
  rfl
def sp_flat (K : PySem.W.Frag) : Sp := fun vs H Q _ => ∃ (p : Addr) (us : List V) (l : List Statement), vs = [.ref p] ∧ SqL K H p us ∧ StL H us l ∧ l.length ≤ 1000 ∧ ∀ H' r, Same H H' → H r = none → H' r = some (.lst (rV (Vbjbaj.shownStatements l))) → Q (.ref r) H'
theorem shown_app (l : List Statement) (s : Statement) : rV ((l ++ [s]).flatMap fun s => Vbjbaj.ints [s.kind, s.form, s.other]) = rV (l.flatMap fun s => Vbjbaj.ints [s.kind, s.form, s.other]) ++ stT s := by
  rw [List.flatMap_append]
  simp [rV, stT, Vbjbaj.ints]
theorem shown_len : ∀ l : List Statement, (l.flatMap fun s => Vbjbaj.ints [s.kind, s.form, s.other]).length = 3 * l.length
  | [] => rfl
  | s :: l => by
    rw [List.flatMap_cons, List.length_append, shown_len l, List.length_cons]
    show 3 + _ = _
    omega
theorem ok_flat (T : Txt K mg A) {f : Addr} {fd : FuncData} (F : Fun K "flat" "flat" s_flat f fd) : FnOk P w K mg base CX0 1 f fd ["statements"] (sp_flat K) := by
  refine F.ok sc_flat (fun vs H Q E h => by obtain ⟨p, us, l, rfl, _⟩ := h; rfl) (fun cdv A' outer s H vs Q E hr h => ?_)
  refine ⟨_, (pss_cons (ps_set (i := 1) sc_flat.nd rfl (Or.inl rfl) (pe_lst (pa_cons (pe_callB call_len_seq (by rfl) T.b_len (by decide +kernel) (pa_cons (pv 0) pa_nil)) pa_nil)))
(pss_cons (ps_for PassesOwn.never rfl (pi_list (pv 0)) (pg_name (i := 2) sc_flat.nd rfl (Or.inl rfl)) (pss_one (ps_expr (pe_bm PySem.F.plainAttrs_list PySem.F.slot_list_extend PySem.F.type_list_extend mt_extend (pv 1) (pa_cons (pe_callTy call_list_of (by rfl) T.b_list (by decide +kernel) (pa_cons (pv 2) pa_nil)) pa_nil)))))
(pss_one (ps_ret (pv 1))))), ?_⟩
  obtain ⟨p, us, l, rfl, hp, hl, hlen, k⟩ := h
  have lul : us.length = l.length := Paired.len hl
  refine ⟨_, rfl, p, _, rfl, .inl hp, by show 1 ≤ sizeLine; decide, fun fl hfl => ?_⟩
  refine ⟨_, rfl, p, rfl, ⟨_, Same.seq (Same.new hfl) hp⟩, for_list (K := K) (a := p) (xs := us) (fun i σ H' => ∃ x2 : Option V, σ = [some (.ref p), some (.ref fl), x2] ∧ Same H H' ∧ H' fl = some (.lst (V.int (l.length : Nat) :: rV ((l.take i).flatMap fun s => Vbjbaj.ints [s.kind, s.form, s.other])))) ⟨none, rfl, Same.new hfl, by rw [upd_same, lul]; rfl⟩ (fun i σ H' _ ⟨_, _, q, _⟩ => Same.seq q hp) ?_ ?_⟩
  · rintro i v σ H1 hv ⟨x2, rfl, s1, e1⟩
    obtain ⟨s, hs, b, rfl, hb⟩ := stL_at hl hv
    refine ⟨_, rfl, .inl ⟨rfl, _, SqL.of e1⟩, _, rfl, b, _, rfl, .inr (SqT.of (s1 _ _ hb)), fun q hq => ?_⟩
    have nq : fl ≠ q := fun z => by rw [← z, e1] at hq; cases hq
    refine ⟨fl, q, _, _, rfl, rfl, by rw [upd_ne nq]; exact e1, upd_same, ?_, _, rfl, Same.put (Same.neu s1 hq) hfl, ?_⟩
    · refine Nat.le_of_lt (lt_size ?_)
      rw [List.length_cons, rV, List.length_map, shown_len, List.length_take]
      show _ + 1 + 3 ≤ _
      omega
    · rw [upd_same, take_succ' hs, shown_app]
      rfl
  · rintro σ H1 ⟨x2, rfl, s1, e1⟩
    rw [lul, List.take_length] at e1
    exact ⟨_, rfl, k H1 fl s1 hfl e1⟩
end
end Sf
/-! W18: is_statement, change, Project.__init__. -/
namespace Sf
open PySem PySem.Spec PyProof.Rows L2
open Vbjbaj (Statement File Project State Readings)
theorem Paired.drop {α β : Type} {F : α → β → Prop} : ∀ (n : Nat) {l : List α} {m : List β}, Paired F l m → Paired F (l.drop n) (m.drop n)
  | 0, _, _, h => h
  | _ + 1, _, _, .nil => .nil
  | n + 1, _, _, .cons _ t => Paired.drop n t
theorem cut_last (xs : List V) (k : Nat) : cutV xs (some (-((k : Int) + 1))) none = xs.drop (xs.length - (k + 1)) := by
  unfold cutV
  rw [HT.sIx_none]
  have : HT.sIx xs.length 0 (some (-((k : Int) + 1))) = xs.length - (k + 1) := by
    show (if -((k : Int) + 1) < 0 then (-((k : Int) + 1) + (xs.length : Int)).toNat else _) = _
    rw [if_pos (by omega)]
    omega
  rw [this, List.take_of_length_le (by rw [List.length_drop]; omega)]
/-- all but instances with other than three fields stays -/
def SameNP (H H' : Hp) : Prop := ∀ b o, (∀ C dx fs, o = .ins C dx fs → fs.length = 3) → H b = some o → H' b = some o
theorem StL.np {H H' : Hp} {us : List V} {l : List Statement} (x : SameNP H H') (h : StL H us l) : StL H' us l := Paired.mapP h fun _ _ ⟨a, e, q⟩ => ⟨a, e, x _ _ (fun _ _ _ z => by cases z) q⟩
theorem FileAt.np {C : Addr} {H H' : Hp} {a : Addr} {x : File} (e : SameNP H H') (h : FileAt C H a x) : FileAt C H' a x := by
  obtain ⟨dx, it, st, tt, ss, h1, h2, h3, h4, h5⟩ := h
  exact ⟨dx, it, st, tt, ss, e _ _ (fun _ _ _ z => by cases z; rfl) h1, e _ _ (fun _ _ _ z => by cases z) h2, e _ _ (fun _ _ _ z => by cases z) h3, h4.np e, e _ _ (fun _ _ _ z => by cases z) h5⟩
theorem FilesU.np {C : Addr} {H H' : Hp} {d : Addr} {p : Project} (e : SameNP H H') (h : FilesU C H d p) : FilesU C H' d p := by
  obtain ⟨kvs, h1, h2⟩ := h
  exact ⟨kvs, e _ _ (fun _ _ _ z => by cases z) h1, h2.nd, h2.ks, fun f x q => by obtain ⟨a, h3, h4⟩ := h2.at_ f x q; exact ⟨a, h3, h4.np e⟩⟩
theorem KeyV.np {H H' : Hp} {v : V} {k : Vbjbaj.Key} (x : SameNP H H') (h : KeyV H v k) : KeyV H' v k := by
  obtain ⟨a, tt, st, us, h1, h2, h3, h4, h5⟩ := h
  exact ⟨a, tt, st, us, h1, x _ _ (fun _ _ _ z => by cases z) h2, x _ _ (fun _ _ _ z => by cases z) h3, x _ _ (fun _ _ _ z => by cases z) h4, h5.np x⟩
theorem Kept.np {H H' : Hp} {kd : Addr} {r : Readings} (e : SameNP H H') (h : Kept H kd r) : Kept H' kd r := by
  obtain ⟨kvs, ks, h1, h2, h3, h4, h5⟩ := h
  exact ⟨kvs, ks, e _ _ (fun _ _ _ z => by cases z) h1, h2, h3, h4, fun f hf => (h5 f hf).imp_right fun ⟨v, k, q1, q2, q3⟩ => ⟨v, k, q1, q2, q3.np e⟩⟩
theorem Bef.np {C : Addr} {H H' : Hp} {bl kd : Addr} {past : List Project} (e : SameNP H H') (h : Bef C H bl kd past) : Bef C H' bl kd past := by
  obtain ⟨vs, h1, h2⟩ := h
  exact ⟨vs, e _ _ (fun _ _ _ z => by cases z) h1, Paired.mapP h2 fun _ _ ⟨d, q1, q0, q2⟩ => ⟨d, q1, q0, q2.np e⟩⟩
section
variable {P : Program} {w : World} {K : PySem.W.Frag} {mg : Str → Option Value} {base : Heap} {A : Ad}
def sp_is_statement (A : Ad) : Sp := fun vs H Q _ => ∃ (pa dx df kd bl : Addr) (t : Nat) (x : Int × Int × Int), vs = [.ref pa, .int x.1, .int x.2.1, .int x.2.2] ∧ t ≤ 20 ∧ H pa = some (.ins A.Project dx (projF t df kd bl)) ∧ Q (.bl (isStI t x)) H
theorem ok_is_statement (T : Txt K mg A) {f : Addr} {fd : FuncData} (F : Fun K "is_statement" "Project.is_statement" s_Project_is_statement f fd) : FnOk P w K mg base CX0 1 f fd ["self", "kind", "form", "other"] (sp_is_statement A) := by
  refine F.ok sc_Project_is_statement (fun vs H Q E h => by obtain ⟨pa, dx, df, kd, bl, t, x, rfl, _⟩ := h; rfl) (fun cdv A' outer s H vs Q E hr h => ?_)
  refine ⟨_, (pss_cons (ps_set (i := 4) sc_Project_is_statement.nd rfl (Or.inl rfl) (pe_op op_sub (pe_op op_mul pe_int (pe_fld (pv 0) rfl)) pe_int))
(pss_cons (ps_if (PW.pt (pw_or (pt_not (pt_chain op_le op_le pe_int (pv 1) pe_int)) (pw_or1 (pt_not (pt_chain op_le op_le pe_int (pv 2) (pv 4)))))) (pss_one (ps_ret pe_bl)) pss_nil)
(pss_one (ps_ret (pe_chain op_le op_le pe_int (pv 3) (pe_ifExp (pt_cmpR op_eq (pv 1) pe_int (nomark _)) pe_int (pv 4))))))), ?_⟩
  obtain ⟨pa, dx, df, kd, bl, t, ⟨a, b, c⟩, rfl, ht, ho, k⟩ := h
  have go : ∀ q : Bool, q = isStI t (a, b, c) → Q (.bl q) H := fun q e => e ▸ k
  refine ⟨_, rfl, pa, A.Project, dx, _, _, rfl, ho, T.clP, T.nP_tokens, projF_tokens _ _ _ _, _, _, rfl, rfl, .inl ⟨by decide, by decide⟩, _, _, rfl, rfl, ?_⟩
  have no : (¬ (0 ≤ a ∧ a ≤ 2) ∨ ¬ (0 ≤ b ∧ b ≤ 2 * (t : Int) - 1)) → Q (.bl false) H := fun h => go false (by
    unfold isStI
    rcases h with h | h
    · rw [show decide (0 ≤ (a, b, c).1 ∧ (a, b, c).1 ≤ 2) = false from decide_eq_false h]; rfl
    · rw [show decide (0 ≤ (a, b, c).2.1 ∧ (a, b, c).2.1 ≤ 2 * (t : Int) - 1) = false from decide_eq_false h, Bool.false_and, Bool.and_false])
  refine ⟨_, rfl, _, _, rfl, rfl, _, rfl, ?_⟩
  refine ite2 (fun c1 => ?_) (fun c1 => ⟨_, rfl, iteT (iteT (no (.inl fun h => c1 (decide_eq_true h.1))))⟩)
  refine ⟨_, _, rfl, rfl, _, rfl, ?_⟩
  have h1 : 0 ≤ a := of_decide_eq_true c1
  by_cases h2 : a ≤ 2
  case neg =>
    rw [decide_eq_false h2]
    exact iteT (iteT (no (.inl fun h => h2 h.2)))
  rw [decide_eq_true h2]
  refine iteF ?_
  refine ⟨_, rfl, _, _, rfl, rfl, _, rfl, ?_⟩
  refine ite2 (fun c3 => ?_) (fun c3 => ⟨_, rfl, iteT (no (.inr fun h => c3 (decide_eq_true h.1)))⟩)
  have h3 : 0 ≤ b := of_decide_eq_true c3
  refine ⟨_, rfl, _, _, rfl, rfl, _, rfl, ?_⟩
  by_cases h4 : b ≤ 2 * (t : Int) - 1
  case neg =>
    rw [decide_eq_false h4]
    exact iteT (no (.inr fun h => h4 h.2))
  rw [decide_eq_true h4]
  refine iteF ?_
  have yes : ∀ q : Bool, q = decide (0 ≤ c ∧ c ≤ (if a = 0 then 2 else 2 * (t : Int) - 1)) → Q (.bl q) H := fun q e => go q (by
    unfold isStI
    rw [show decide (0 ≤ (a, b, c).1 ∧ (a, b, c).1 ≤ 2) = true from decide_eq_true ⟨h1, h2⟩, show decide (0 ≤ (a, b, c).2.1 ∧ (a, b, c).2.1 ≤ 2 * (t : Int) - 1) = true from decide_eq_true ⟨h3, h4⟩, e]
    rfl)
  refine ⟨_, rfl, _, _, rfl, rfl, _, rfl, ?_⟩
  refine ite2 (fun c5 => ?_) (fun c5 => yes false (decide_eq_false fun h => c5 (decide_eq_true h.1)).symm)
  have h5 : 0 ≤ c := of_decide_eq_true c5
  refine ⟨_, rfl, rfl, _, rfl, ?_⟩
  by_cases h6 : a = 0
  · subst h6
    refine iteT ⟨_, _, rfl, rfl, yes _ ?_⟩
    refine decide_eq_decide.mpr ?_
    rw [if_pos rfl]
    exact ⟨fun h => ⟨h5, h⟩, fun h => h.2⟩
  · have : decide (V.int a = V.int 0) = false := decide_eq_false fun z => h6 (by cases z; rfl)
    rw [this]
    refine iteF ⟨_, rfl, _, _, rfl, rfl, yes _ ?_⟩
    refine decide_eq_decide.mpr ?_
    rw [if_neg h6]
    exact ⟨fun h => ⟨h5, h⟩, fun h => h.2⟩
def sp_Project_init (A : Ad) : Sp := fun vs H Q _ => ∃ (pa dx : Addr) (t : Nat), vs = [.ref pa, .int (t : Int)] ∧ t ≤ 20 ∧ H pa = some (.ins A.Project dx []) ∧ ∀ H', (∀ b o, b ≠ pa → H b = some o → H' b = some o) → PjAt A H' pa { Vbjbaj.initialState with tokens := t } → Q .non H'
theorem noFiles_at (f : Nat) : Vbjbaj.fileAt Vbjbaj.noFiles f = none := by
  unfold Vbjbaj.fileAt Vbjbaj.noFiles
  rw [List.getD_eq_getElem?_getD, List.getElem?_replicate]
  split <;> rfl
theorem stOk_init {t : Nat} (h : t ≤ 20) : StOk { Vbjbaj.initialState with tokens := t } := by
  refine ⟨⟨rfl, (fun f x e => ?_), h⟩, rfl, (fun q hq => by cases hq), Nat.zero_le _⟩
  have e' : Vbjbaj.fileAt Vbjbaj.noFiles f = some x := e
  rw [noFiles_at] at e'
  cases e'
theorem put_proj (x a b c : V) : putF "before" c (putF "kept" b (putF "files" a (putF "tokens" x []))) = ([("tokens", x), ("files", a), ("kept", b), ("before", c)] : List (Str × V)) := by
  have n1 : ¬ ("tokens" : Str) = "files" := by decide +kernel
  have n2 : ¬ ("tokens" : Str) = "kept" := by decide +kernel
  have n3 : ¬ ("files" : Str) = "kept" := by decide +kernel
  have n4 : ¬ ("tokens" : Str) = "before" := by decide +kernel
  have n5 : ¬ ("files" : Str) = "before" := by decide +kernel
  have n6 : ¬ ("kept" : Str) = "before" := by decide +kernel
  have e1 : putF "tokens" x [] = ([("tokens", x)] : List (Str × V)) := put_last
  have e2 : putF "files" a ([("tokens", x)] : List (Str × V)) = ([("tokens", x), ("files", a)] : List (Str × V)) := (put_skip n1).trans (congrArg _ put_last)
  have e3 : putF "kept" b ([("tokens", x), ("files", a)] : List (Str × V)) = ([("tokens", x), ("files", a), ("kept", b)] : List (Str × V)) := (put_skip n2).trans (congrArg _ ((put_skip n3).trans (congrArg _ put_last)))
  have e4 : putF "before" c ([("tokens", x), ("files", a), ("kept", b)] : List (Str × V)) = ([("tokens", x), ("files", a), ("kept", b), ("before", c)] : List (Str × V)) := (put_skip n4).trans (congrArg _ ((put_skip n5).trans (congrArg _ ((put_skip n6).trans (congrArg _ put_last)))))
  rw [e1, e2, e3, e4]
theorem put_files (t : Nat) (df kd bl fd : Addr) : putF "files" (.ref fd) (projF t df kd bl) = projF t fd kd bl := (put_skip (by decide +kernel)).trans (congrArg _ put_hit)
theorem put_before (t : Nat) (df kd bl b2 : Addr) : putF "before" (.ref b2) (projF t df kd bl) = projF t df kd b2 := (put_skip (by decide +kernel)).trans (congrArg _ ((put_skip (by decide +kernel)).trans (congrArg _ ((put_skip (by decide +kernel)).trans (congrArg _ put_hit)))))
theorem ok_Project_init (T : Txt K mg A) {f : Addr} {fd : FuncData} (F : Fun K "__init__" "Project.__init__" s_Project_init f fd) : FnOk P w K mg base CX0 1 f fd ["self", "tokens"] (sp_Project_init A) := by
  refine F.ok sc_Project_init (fun vs H Q E h => by obtain ⟨pa, dx, t, rfl, _⟩ := h; rfl) (fun cdv A' outer s H vs Q E hr h => ?_)
  refine ⟨_, (pss_cons (ps_fld (pv 0) (pv 1) rfl)
(pss_cons (ps_fld (pv 0) pe_dnewK rfl)
(pss_cons (ps_fld (pv 0) pe_dnewK rfl)
(pss_one (ps_fld (pv 0) (pe_lst pa_nil) rfl))))), ?_⟩
  obtain ⟨pa, dx, t, rfl, ht, ho, k⟩ := h
  refine ⟨_, rfl, _, rfl, pa, A.Project, dx, [], rfl, ho, T.clP, T.nP_tokens, (by show 0 < 1000; decide), ?_⟩
  intro df hdf
  have n1 : df ≠ pa := fun z => by rw [z, upd_same] at hdf; cases hdf
  refine ⟨_, rfl, pa, A.Project, dx, _, rfl, by rw [upd_ne n1.symm, upd_same], T.clP, T.nP_files, (by show 1 < 1000; decide), ?_⟩
  intro kd hkd
  have n2 : kd ≠ pa := fun z => by rw [z, upd_same] at hkd; cases hkd
  have n3 : kd ≠ df := fun z => by rw [z, upd_ne n1, upd_same] at hkd; cases hkd
  refine ⟨_, rfl, pa, A.Project, dx, _, rfl, by rw [upd_ne n2.symm, upd_same], T.clP, T.nP_kept, (by show 2 < 1000; decide), ?_⟩
  refine ⟨by show 0 ≤ sizeLine; decide, fun bl hbl => ?_⟩
  have n4 : bl ≠ pa := fun z => by rw [z, upd_same] at hbl; cases hbl
  have n5 : bl ≠ kd := fun z => by rw [z, upd_ne n2, upd_same] at hbl; cases hbl
  have n6 : bl ≠ df := fun z => by rw [z, upd_ne n1, upd_ne n3.symm, upd_ne n1, upd_same] at hbl; cases hbl
  refine ⟨_, rfl, pa, A.Project, dx, _, rfl, by rw [upd_ne n4.symm, upd_same], T.clP, T.nP_before, (by show 3 < 1000; decide), ?_⟩
  have hdf0 : H df = none := by rwa [upd_ne n1] at hdf
  have hkd0 : H kd = none := by rwa [upd_ne n2, upd_ne n3, upd_ne n2] at hkd
  have hbl0 : H bl = none := by rwa [upd_ne n4, upd_ne n5, upd_ne n4, upd_ne n6, upd_ne n4] at hbl
  refine k _ (fun b o hb e => ?_) ⟨stOk_init ht, dx, df, kd, bl, ?_, ?_, ?_, ?_, n3.symm⟩
  · have m1 := ne_of_none e hdf0
    have m2 := ne_of_none e hkd0
    have m3 := ne_of_none e hbl0
    rw [upd_ne hb, upd_ne m3, upd_ne hb, upd_ne m2, upd_ne hb, upd_ne m1, upd_ne hb]
    exact e
  · rw [upd_same, put_proj]
    rfl
  · refine ⟨[], by rw [upd_ne n1, upd_ne n6.symm, upd_ne n1, upd_ne n3.symm, upd_ne n1, upd_same], .nil, ⟨[], rfl, fun f => ?_⟩, fun f x e => ?_⟩
    · show f ∈ [] ↔ (Vbjbaj.fileAt Vbjbaj.noFiles f).isSome = true
      rw [noFiles_at]
      simp
    · have e' : Vbjbaj.fileAt Vbjbaj.noFiles f = some x := e
      rw [noFiles_at] at e'
      cases e'
  · refine ⟨[], [], by rw [upd_ne n2, upd_ne n5.symm, upd_ne n2, upd_same], rfl, .nil, fun g hg => by simp at hg, fun f hf => .inl ⟨?_, rfl⟩⟩
    show (List.replicate Vbjbaj.maxFiles none).getD f none = none
    rw [List.getD_eq_getElem?_getD, List.getElem?_replicate]
    split <;> rfl
  · exact ⟨[], by rw [upd_ne n4, upd_same], .nil⟩
def sp_change (A : Ad) : Sp := fun vs H Q _ => ∃ (pa fd dx df kd bl : Addr) (s : State) (p : Project), vs = [.ref pa, .ref fd] ∧ StOk s ∧ PjI A H pa dx df kd bl s ∧ PWf s.tokens p ∧ FilesU A.File H fd p ∧ fd ≠ kd ∧
  ∀ H' bl', SameL H H' → PjAt A H' pa { s with project := p, past := (s.project :: s.past).take Vbjbaj.maxPast } → PjI A H' pa dx fd kd bl' { s with project := p, past := (s.project :: s.past).take Vbjbaj.maxPast } → Q .non H'
theorem ok_change (T : Txt K mg A) {f : Addr} {fd : FuncData} (F : Fun K "change" "Project.change" s_Project_change f fd) : FnOk P w K mg base CX0 1 f fd ["self", "files"] (sp_change A) := by
  refine F.ok sc_Project_change (fun vs H Q E h => by obtain ⟨pa, fd, dx, df, kd, bl, s, p, rfl, _⟩ := h; rfl) (fun cdv A' outer s H vs Q E hr h => ?_)
  refine ⟨_, (pss_cons (ps_fld (pv 0) (pe_slice sl_list (pe_op op_cat (pe_fld (pv 0) rfl) (pe_lst (pa_cons (pe_fld (pv 0) rfl) pa_nil))) (po_some (pe_un un_neg (pe_gl T.c_MOST_UNDO))) po_none) rfl)
(pss_one (ps_fld (pv 0) (pv 1) rfl))), ?_⟩
  obtain ⟨pa, fd, dx, df, kd, bl, s, p, rfl, ok, pj, pw, fu, nfk, k⟩ := h
  obtain ⟨vs, hvs, rvs⟩ := pj.be
  have lvs : vs.length = s.past.length := by rw [Paired.len rvs, List.length_reverse]
  have l20 := ok.pl
  refine ⟨_, rfl, pa, A.Project, dx, _, _, rfl, pj.ob, T.clP, T.nP_before, projF_before _ _ _ _, _, rfl, pa, A.Project, dx, _, _, rfl, pj.ob, T.clP, T.nP_files, projF_files _ _ _ _, by show 1 ≤ sizeLine; decide, fun q1 hq1 => ?_⟩
  have s1 : Same H (upd H q1 (.lst [.ref df])) := Same.new hq1
  refine ⟨bl, q1, _, _, rfl, rfl, s1 _ _ hvs, upd_same, by rw [lvs]; exact Nat.le_of_lt (lt_size (by simp; omega)), fun q2 hq2 => ?_⟩
  have s2 := s1.trans (Same.new (o := .lst (vs ++ [V.ref df])) hq2)
  generalize eH : upd (upd H q1 (.lst [.ref df])) q2 (.lst (vs ++ [V.ref df])) = H2 at s2
  have e2 : H2 q2 = some (.lst (vs ++ [V.ref df])) := by rw [← eH, upd_same]
  refine ⟨_, rfl, _, rfl, q2, _, rfl, SqL.of e2, fun q3 hq3 => ?_⟩
  have ec : cutV (vs ++ [V.ref df]) (some (-20)) none = (vs ++ [V.ref df]).drop ((vs ++ [V.ref df]).length - 20) := cut_last _ 19
  have s3 := s2.trans (Same.new (o := .lst (cutV (vs ++ [V.ref df]) (some (-20)) none)) hq3)
  have e3 : upd H2 q3 (.lst (cutV (vs ++ [V.ref df]) (some (-20)) none)) q3 = some (.lst ((vs ++ [V.ref df]).drop ((vs ++ [V.ref df]).length - 20))) := by rw [upd_same, ec]
  refine ⟨_, rfl, pa, A.Project, dx, _, rfl, s3 _ _ pj.ob, T.clP, T.nP_before, (by show 4 < 1000; decide), ?_⟩
  generalize upd H2 q3 (.lst (cutV (vs ++ [V.ref df]) (some (-20)) none)) = H3 at s3 e3
  have ob3 := s3 _ _ pj.ob
  rw [put_before]
  refine ⟨_, rfl, _, rfl, pa, A.Project, dx, _, rfl, upd_same, T.clP, T.nP_files, (by show 4 < 1000; decide), ?_⟩
  rw [put_files]
  have np : SameNP H3 (upd (upd H3 pa (.ins A.Project dx (projF s.tokens df kd q3))) pa (.ins A.Project dx (projF s.tokens fd kd q3))) := fun b o no e => by
    have : b ≠ pa := fun z => by
      rw [z, ob3] at e
      have := no _ _ _ (Option.some.inj e).symm
      cases this
    rw [upd_ne this, upd_ne this]
    exact e
  generalize eH4 : upd (upd H3 pa (.ins A.Project dx (projF s.tokens df kd q3))) pa (.ins A.Project dx (projF s.tokens fd kd q3)) = H4 at np
  have ob4 : H4 pa = some (.ins A.Project dx (projF s.tokens fd kd q3)) := by rw [← eH4, upd_same]
  have st' : StOk { s with project := p, past := (s.project :: s.past).take Vbjbaj.maxPast } := ⟨pw, ok.rl, fun q hq => by
    rcases List.mem_cons.mp (List.mem_of_mem_take hq) with h | h
    · subst h; exact ok.pw
    · exact ok.pp q h, by
    show ((s.project :: s.past).take 20).length ≤ 20
    rw [List.length_take]; omega⟩
  have pj' : PjI A H4 pa dx fd kd q3 { s with project := p, past := (s.project :: s.past).take Vbjbaj.maxPast } := by
    refine ⟨ob4, (fu.same s3).np np, (pj.ke.same s3).np np, ?_, nfk⟩
    refine Bef.np np ⟨_, e3, ?_⟩
    have r1 : Paired (fun v q => ∃ d, v = .ref d ∧ d ≠ kd ∧ FilesU A.File H3 d q) (vs ++ [V.ref df]) (s.project :: s.past).reverse := by
      rw [List.reverse_cons]
      exact Paired.snoc ⟨df, rfl, pj.ne, pj.fu.same s3⟩ (Paired.mapP rvs fun _ _ ⟨d, h1, h2, h3⟩ => ⟨d, h1, h2, h3.same s3⟩)
    have r2 := Paired.drop ((vs ++ [V.ref df]).length - 20) r1
    have el : (vs ++ [V.ref df]).length = (s.project :: s.past).length := by simp [lvs]
    have er : ((s.project :: s.past).take Vbjbaj.maxPast).reverse = (s.project :: s.past).reverse.drop ((vs ++ [V.ref df]).length - 20) := by
      rw [el, List.drop_reverse]
      congr 1
      show List.take 20 (s.project :: s.past) = _
      by_cases c : (s.project :: s.past).length ≤ 20
      · rw [List.take_of_length_le c, List.take_of_length_le (by omega)]
      · rw [show (s.project :: s.past).length - ((s.project :: s.past).length - 20) = 20 by omega]
    show Paired _ _ (((s.project :: s.past).take Vbjbaj.maxPast).reverse)
    rw [er]
    exact r2
  exact k H4 q3 (fun a xs => ⟨fun e => np _ _ (fun _ _ _ z => by cases z) (s3 _ _ e), fun e => np _ _ (fun _ _ _ z => by cases z) (s3 _ _ e), fun _ _ e => np _ _ (fun _ _ _ z => by cases z) (s3 _ _ e)⟩) ⟨st', _, _, _, _, pj'⟩ pj'
end
end Sf
/-! W19: Project.file. -/
namespace Sf
open PySem PySem.Spec PyProof.Rows L2
open Vbjbaj (Statement File Project State Readings)
theorem rV_nats {l : List Int} (h : ∀ z ∈ l, 0 ≤ z) : rV l = nV (Vbjbaj.nats l) := by
  unfold Vbjbaj.nats
  rw [rV, nV, List.map_map]
  refine List.map_congr_left fun z hz => ?_
  have := h z hz
  show V.int z = V.int ((z.toNat : Nat) : Int)
  rw [Int.toNat_of_nonneg this]
theorem rV_at {l : List Int} {i : Nat} {x : V} (h : (rV l)[i]? = some x) : ∃ n, l[i]? = some n ∧ x = .int n := map_at h
theorem big_lt {n : Nat} (h : n ≤ 10000000) : n < sizeLine := by rw [sizeLine_eq]; omega
theorem Fil.big {α : Type} {xs : List α} {p : α → Bool} {f : α → V} {i : Nat} (h : xs.length ≤ 10000000) : (Fil xs p f i).length < sizeLine := big_lt (Nat.le_trans Fil.len h)
def st3V (x : Int × Int × Int) : List V := [.int x.1, .int x.2.1, .int x.2.2]
theorem fits {x : Int} (h1 : 0 ≤ x) (h2 : x ≤ 20000000) : Builtin.Range.rangeFitsLong x = true := by
  unfold Builtin.Range.rangeFitsLong
  rw [Bool.and_eq_true, decide_eq_true_eq, decide_eq_true_eq]
  omega
theorem small_of {n m c : Nat} (hn : n ≤ 10000000) (hm : m ≤ 10000000) (hc : c ≤ 10) (e : Builtin.Range.rangeSize 0 (n : Int) (c : Int) = (m : Int)) (hc0 : 0 < (c : Int)) : Builtin.Range.small 0 (n : Int) (c : Int) = true := by
  unfold Builtin.Range.small
  rw [e, if_pos hc0, fits (by omega) (by omega), fits (x := (n : Int)) (by omega) (by omega), fits (x := (c : Int)) (by omega) (by omega), fits (x := (m : Int)) (by omega) (by omega), fits (x := (n : Int) + ((c : Int) - 1)) (by omega) (by omega), Bool.or_true]
  rfl
theorem rgc3 {n m : Nat} (hn : n ≤ 10000000) (hm : n = 3 * m) : RgC 0 (n : Int) 3 m := by
  have e : Builtin.Range.rangeSize 0 (n : Int) ((3 : Nat) : Int) = (m : Int) := by
    rw [rangeSize_pos (by omega) (by omega)]
    omega
  exact ⟨by decide, by decide, small_of (c := 3) hn (by omega) (by omega) e (by decide), e⟩
theorem rgc2 {n m : Nat} (hn : n ≤ 10000000) (hm : n = 2 * m) : RgC 0 (n : Int) 2 m := by
  have e : Builtin.Range.rangeSize 0 (n : Int) ((2 : Nat) : Int) = (m : Int) := by
    rw [rangeSize_pos (by omega) (by omega)]
    omega
  exact ⟨by decide, by decide, small_of (c := 2) hn (by omega) (by omega) e (by decide), e⟩
section
variable {P : Program} {w : World} {K : PySem.W.Frag} {mg : Str → Option Value} {base : Heap} {A : Ad}
def sp_Project_file (A : Ad) : Sp := fun vs H Q E => ∃ (pa rw_ a b c dx df kd bl : Addr) (t : Nat) (im st tx : List Int), vs = [.ref pa, .ref rw_] ∧ t ≤ 20 ∧ H pa = some (.ins A.Project dx (projF t df kd bl)) ∧ H rw_ = some (.lst [.ref a, .ref b, .ref c]) ∧ H a = some (.lst (rV im)) ∧ H b = some (.lst (rV st)) ∧ H c = some (.lst (rV tx)) ∧
  im.length ≤ 10000000 ∧ st.length ≤ 10000000 ∧ tx.length ≤ 10000000 ∧ (Vbjbaj.fileFrom t im st tx = none → Fails A H (-1) E) ∧ ∀ x, Vbjbaj.fileFrom t im st tx = some x → ∀ H' r, Same H H' → FileAt A.File H' r x → Q (.ref r) H'
theorem ok_Project_file (T : Txt K mg A) (M_is_statement : MCal P w K mg base CX0 1 A.Project "is_statement" ["self", "kind", "form", "other"] (sp_is_statement A)) (M_File : MkC P w K mg base 1 "File" A.File ["self", "imports", "statements", "text"] (sp_File_init A))
    (C_need : Cal P w K mg base (L2.CX P w) 3 "need" ["is_right", "code"] (sp_need A)) {f : Addr} {fd : FuncData} (F : Fun K "file" "Project.file" s_Project_file f fd) : FnOk P w K mg base (L2.CX P w) 4 f fd ["self", "rows"] (sp_Project_file A) := by
  refine F.okX sc_Project_file (fun vs H Q E h => by obtain ⟨pa, rw_, a, b, c, dx, df, kd, bl, t, im, st, tx, rfl, _⟩ := h; rfl) (fun cdv A' outer s H vs Q E hr h => ?_)
  refine ⟨_, (pss_cons (ps_asg (pv 1) (pg_lst rfl (pgs_cons (pg_name (i := 2) sc_Project_file.nd rfl (Or.inr rfl)) (pgs_cons (pg_name (i := 3) sc_Project_file.nd rfl (Or.inr rfl)) (pgs_cons (pg_name (i := 4) sc_Project_file.nd rfl (Or.inl rfl)) pgs_nil)))))
(pss_cons (ps_expr (pe_cal C_need (hr.mono (by decide)) (passes_call (takes_of rfl rfl rfl rfl) (fun _ _ _ _ h => h)) (pa_cons (pe_callB (cr_all rfl) (by rfl) T.b_all (by decide +kernel) (pa_cons (pe_lc (own := [("number", 7)]) (g := (gName 7)) (tt := tYes) (te := (tChain rLeI rLeI (tC (.int 0)) (tVar 7) (tC (.int 9)))) (by rfl) sc_Project_file.nd (pi_list (pv 2)) (blkOk_by (own := [("number", 7)]) (N := N_Project_file) (sc := defScope s_Project_file) (by decide +kernel)) (fun _ _ _ _ _ => (pg_name (i := 7) sc_Project_file.nd rfl (Or.inl rfl))) (fun _ _ _ _ _ => pts_nil) (fun _ _ _ _ _ => (pe_chain op_le op_le pe_int (pv 7) (pe_gl T.c_MOST_NUMBER)))) pa_nil)) (pa_cons (pe_un un_neg pe_int) pa_nil))))
(pss_cons (ps_expr (pe_cal C_need (hr.mono (by decide)) (passes_call (takes_of rfl rfl rfl rfl) (fun _ _ _ _ h => h)) (pa_cons (pe_callB (cr_all rfl) (by rfl) T.b_all (by decide +kernel) (pa_cons (pe_lc (own := [("at", 6)]) (g := (gName 6)) (tt := tYes) (te := (tOp rLtI (tOp (rIxL K) (tVar 2) (tOp rSubI (tVar 6) (tC (.int 1)))) (tOp (rIxL K) (tVar 2) (tVar 6)))) (by rfl) sc_Project_file.nd (pi_range2 rfl T.b_range (pa_cons pe_int (pa_cons (pe_callB call_len_seq (by rfl) T.b_len (by decide +kernel) (pa_cons (pv 2) pa_nil)) pa_nil))) (blkOk_by (own := [("at", 6)]) (N := N_Project_file) (sc := defScope s_Project_file) (by decide +kernel)) (fun _ _ _ _ _ => (pg_name (i := 6) sc_Project_file.nd rfl (Or.inl rfl))) (fun _ _ _ _ _ => pts_nil) (fun _ _ _ _ _ => (pe_cmpR op_lt (pe_ix ix_list (pv 2) (pe_op op_sub (pv 6) pe_int) (fun _ _ => rfl)) (pe_ix ix_list (pv 2) (pv 6) (fun _ _ => rfl)) (nomark _)))) pa_nil)) (pa_cons (pe_un un_neg pe_int) pa_nil))))
(pss_cons (ps_expr (pe_cal C_need (hr.mono (by decide)) (passes_call (takes_of rfl rfl rfl rfl) (fun _ _ _ _ h => h)) (pa_cons (pe_and (pe_cmpR op_eq (pe_op op_mod (pe_callB call_len_seq (by rfl) T.b_len (by decide +kernel) (pa_cons (pv 3) pa_nil)) pe_int) pe_int (nomark _)) (pe_and (pe_cmpR op_le (pe_callB call_len_seq (by rfl) T.b_len (by decide +kernel) (pa_cons (pv 3) pa_nil)) (pe_op op_mul pe_int (pe_gl T.c_MOST_STATEMENTS)) (nomark _)) (pe_one (pe_cmpR op_le (pe_callB call_len_seq (by rfl) T.b_len (by decide +kernel) (pa_cons (pv 4) pa_nil)) (pe_gl T.c_MOST_TEXT) (nomark _))))) (pa_cons (pe_un un_neg pe_int) pa_nil))))
(pss_cons (ps_setLc (i := 5) (y := "some") (own := [("at", 6)]) (g := (gName 6)) (tt := tYes) (te := (tTup (tCons (tOp (rIxL K) (tVar 3) (tVar 6)) (tCons (tOp (rIxL K) (tVar 3) (tOp rAddI (tVar 6) (tC (.int 1)))) (tCons (tOp (rIxL K) (tVar 3) (tOp rAddI (tVar 6) (tC (.int 2)))) tNil))))) (by rfl) sc_Project_file.nd rfl rfl (sw_true rfl rfl rfl (by decide +kernel)) (pi_range3 rfl T.b_range (pa_cons pe_int (pa_cons (pe_callB call_len_seq (by rfl) T.b_len (by decide +kernel) (pa_cons (pv 3) pa_nil)) (pa_cons pe_int pa_nil)))) (blkOk_by (own := [("at", 6)]) (N := N_Project_file) (sc := defScope s_Project_file) (by decide +kernel)) (fun _ _ _ _ _ => (pg_name (i := 6) sc_Project_file.nd rfl (Or.inl rfl))) (fun _ _ _ _ _ => pts_nil) (fun _ _ _ _ _ => (pe_tup (pa_cons (pe_ix ix_list (pv 3) (pv 6) (fun _ _ => rfl)) (pa_cons (pe_ix ix_list (pv 3) (pe_op op_add (pv 6) pe_int) (fun _ _ => rfl)) (pa_cons (pe_ix ix_list (pv 3) (pe_op op_add (pv 6) pe_int) (fun _ _ => rfl)) pa_nil))))))
(pss_cons (ps_expr (pe_cal C_need (hr.mono (by decide)) (passes_call (takes_of rfl rfl rfl rfl) (fun _ _ _ _ h => h)) (pa_cons (pe_callB (cr_all rfl) (by rfl) T.b_all (by decide +kernel) (pa_cons (pe_lc (own := [("kind", 8), ("form", 9), ("other", 10)]) (g := (gTup K 3 (gCons (gName 8) (gCons (gName 9) (gCons (gName 10) gNil))))) (tt := tYes) (te := (tMeth A.Project "is_statement" (sp_is_statement A) [] E0 (tVar 0) (tCons (tVar 8) (tCons (tVar 9) (tCons (tVar 10) tNil))))) (by rfl) sc_Project_file.nd (pi_list (pv 5)) (blkOk_by (own := [("kind", 8), ("form", 9), ("other", 10)]) (N := N_Project_file) (sc := defScope s_Project_file) (by decide +kernel)) (fun _ _ _ _ _ => (pg_tup rfl (pgs_cons (pg_name (i := 8) sc_Project_file.nd rfl (Or.inl rfl)) (pgs_cons (pg_name (i := 9) sc_Project_file.nd rfl (Or.inl rfl)) (pgs_cons (pg_name (i := 10) sc_Project_file.nd rfl (Or.inl rfl)) pgs_nil))))) (fun _ _ _ _ _ => pts_nil) (fun _ _ _ _ _ => (pe_mcal M_is_statement T.clP (pv 0) (hr.mono (by decide)) pass0 (pa_cons (pv 8) (pa_cons (pv 9) (pa_cons (pv 10) pa_nil)))))) pa_nil)) (pa_cons (pe_un un_neg pe_int) pa_nil))))
(pss_cons (ps_expr (pe_cal C_need (hr.mono (by decide)) (passes_call (takes_of rfl rfl rfl rfl) (fun _ _ _ _ h => h)) (pa_cons (pe_callB (cr_all rfl) (by rfl) T.b_all (by decide +kernel) (pa_cons (pe_lc (own := [("token", 11)]) (g := (gName 11)) (tt := tYes) (te := (tChain rLeI rLtI (tC (.int 0)) (tVar 11) (tFld K (tVar 0) "tokens"))) (by rfl) sc_Project_file.nd (pi_list (pv 4)) (blkOk_by (own := [("token", 11)]) (N := N_Project_file) (sc := defScope s_Project_file) (by decide +kernel)) (fun _ _ _ _ _ => (pg_name (i := 11) sc_Project_file.nd rfl (Or.inl rfl))) (fun _ _ _ _ _ => pts_nil) (fun _ _ _ _ _ => (pe_chain op_le op_lt pe_int (pv 11) (pe_fld (pv 0) rfl)))) pa_nil)) (pa_cons (pe_un un_neg pe_int) pa_nil))))
(pss_one (ps_ret (pe_mkc M_File (hr.mono (by decide)) (pa_cons (pe_callTy call_tuple_of (by rfl) T.b_tuple (by decide +kernel) (pa_cons (pv 2) pa_nil)) (pa_cons (pe_callTy call_tuple_of (by rfl) T.b_tuple (by decide +kernel) (pa_cons (pv 5) pa_nil)) (pa_cons (pe_callTy call_tuple_of (by rfl) T.b_tuple (by decide +kernel) (pa_cons (pv 4) pa_nil)) pa_nil))))))))))))), ?_⟩
  obtain ⟨pa, rw_, a, b, c, dx, df, kd, bl, t, im, st, tx, rfl, ht, ho, hrw, ha, hb, hc, la, lb, lc, kf, k⟩ := h
  rw [fileFrom_eq ht] at kf k
  refine ⟨_, rfl, rw_, _, rfl, SqL.of hrw, rfl, _, _, rfl, _, _, rfl, _, _, rfl, rfl, ?_⟩
  -- the imports are numbers
  refine ⟨_, rfl, a, rfl, ⟨_, SqL.of ha⟩, fun D hD => lc_list (K := K) (a := a) (xs := rV im) (LcP H D (Fil im (fun _ => true) fun z => V.bl (decide (0 ≤ z ∧ z ≤ 9)))) (LcP.start hD rfl) (fun i H' _ pv => SqL.of (pv.1 _ _ ha)) (fun i y H1 hy pv => ?_) (fun H1 pv => ?_)⟩
  · obtain ⟨z, hz, rfl⟩ := rV_at hy
    refine ⟨rfl, _, rfl, _, _, rfl, rfl, _, rfl, ?_⟩
    have go : ∀ q : Bool, q = decide (0 ≤ z ∧ z ≤ 9) → ∃ acc, H1 D = some (.lst acc) ∧ acc.length < sizeLine ∧ LcP H D (Fil im (fun _ => true) fun z => V.bl (decide (0 ≤ z ∧ z ≤ 9))) (i + 1) (upd H1 D (.lst (acc ++ [.bl q]))) := fun q e => by
      subst e
      exact pv.push hD (Same.refl _) (Fil.yes hz rfl) (Fil.big la)
    refine ite2 (fun c1 => ?_) (fun c1 => go false (decide_eq_false fun h => c1 (decide_eq_true h.1)).symm)
    have h1 : 0 ≤ z := of_decide_eq_true c1
    exact ⟨_, _, rfl, rfl, go _ (decide_eq_decide.mpr ⟨fun h => ⟨h1, h⟩, fun h => h.2⟩)⟩
  obtain ⟨s1, e1⟩ := pv
  rw [List.length_map, Fil.all, filter_true] at e1
  refine ⟨D, im.map fun z => decide (0 ≤ z ∧ z ≤ 9), rfl, SqL.of (by rw [e1, List.map_map]; rfl), _, rfl, _, _, rfl, ?_, ?_⟩
  case refine_2 =>
    intro hn
    refine (kf (if_neg ?_)).after s1
    intro z
    unfold okFile at z
    rw [Bool.and_eq_true] at z
    rw [List.all_map] at hn
    exact absurd (z.1.symm.trans hn) (by decide)
  intro y1
  have g1 : im.all (fun z => decide (0 ≤ z ∧ z ≤ 9)) = true := by rw [List.all_map] at y1; exact y1
  -- they rise
  have ha1 := s1 _ _ ha
  refine ⟨_, rfl, a, _, rfl, .inl (SqL.of ha1), _, _, rfl, ⟨by decide, by decide, by rw [List.length_map]; omega, by rw [List.length_map]; omega⟩, fun D2 hD2 => ?_⟩
  rw [List.length_map, show (((im.length : Nat) : Int) - 1).toNat = im.length - 1 by omega]
  refine lc_range (lo := 1) (n := im.length - 1) (fun i H' => ∃ bs : List Bool, Same H1 H' ∧ H' D2 = some (.lst (bs.map V.bl)) ∧ bs.length = i ∧ (bs.all id = true ↔ ∀ j x y, j < i → im[j]? = some x → im[j + 1]? = some y → x < y)) ⟨[], Same.new hD2, upd_same, rfl, by simp⟩ ?_ ?_
  · rintro i H2 hi ⟨bs, s2, e2, l2, m2⟩
    obtain ⟨x, hx⟩ : ∃ x, im[i]? = some x := ⟨im[i], List.getElem?_eq_getElem (by omega)⟩
    obtain ⟨y, hy⟩ : ∃ y, im[i + 1]? = some y := ⟨im[i + 1], List.getElem?_eq_getElem (by omega)⟩
    have hx' : (rV im)[i]? = some (V.int x) := by rw [List.getElem?_map, hx]; rfl
    have hy' : (rV im)[i + 1]? = some (V.int y) := by rw [List.getElem?_map, hy]; rfl
    have ha2 := s2 _ _ ha1
    refine ⟨rfl, _, rfl, _, rfl, _, _, rfl, rfl, a, _, _, _, rfl, rfl, SqL.of ha2, by rw [show (1 : Int) + (i : Int) - 1 = (i : Int) by omega]; exact atI_nat hx', _, rfl, _, rfl, a, _, _, _, rfl, rfl, SqL.of ha2, by rw [show (1 : Int) + (i : Int) = ((i + 1 : Nat) : Int) by omega]; exact atI_nat hy', _, _, rfl, rfl, ?_⟩
    refine ⟨bs.map V.bl, e2, by rw [List.length_map]; exact big_lt (by omega), bs ++ [decide (x < y)], Same.put s2 hD2, ?_, by simp; omega, ?_⟩
    · rw [upd_same, List.map_append]; rfl
    · rw [List.all_append, Bool.and_eq_true, m2]
      simp only [List.all_cons, List.all_nil, Bool.and_true, id, decide_eq_true_eq]
      constructor
      · rintro ⟨q1, q2⟩ j x' y' hj h1 h2
        by_cases c : j = i
        · subst c
          rw [hx] at h1
          rw [hy] at h2
          cases h1
          cases h2
          exact q2
        · exact q1 j x' y' (by omega) h1 h2
      · exact fun q => ⟨fun j x' y' hj => q j x' y' (by omega), q i x y (by omega) hx hy⟩
  rintro H2 ⟨bs, s2, e2, l2, m2⟩
  have hris : bs.all id = true ↔ risI im = true := by
    rw [m2, risI_at]
    constructor
    · exact fun q i x y h1 h2 => q i x y (by have := (List.getElem?_eq_some_iff.mp h2).1; omega) h1 h2
    · exact fun q i x y _ h1 h2 => q i x y h1 h2
  refine ⟨D2, bs, rfl, SqL.of e2, _, rfl, _, _, rfl, ?_, ?_⟩
  case refine_2 =>
    intro hn
    refine (kf (if_neg ?_)).after (s1.trans s2)
    intro z
    unfold okFile at z
    rw [Bool.and_eq_true, Bool.and_eq_true] at z
    rw [hris.mpr z.2.1] at hn
    cases hn
  intro y2
  have g2 := hris.mp y2
  -- the counts
  have s12 := s1.trans s2
  have fail3 : ¬ (st.length % 3 = 0 ∧ st.length ≤ 36 ∧ tx.length ≤ 60) → Fails A H2 (-1) E := fun hn => (kf (if_neg fun z => by
    unfold okFile at z
    simp only [Bool.and_eq_true] at z
    exact hn (of_decide_eq_true z.2.2.1))).after s12
  have hb2 := s12 _ _ hb
  have hc2 := s12 _ _ hc
  refine ⟨_, rfl, b, _, rfl, .inl (SqL.of hb2), _, _, rfl, rfl, (by show (0 : Int) < 3; decide), rfl, _, rfl, ?_⟩
  rw [dec_int, List.length_map]
  refine ite2 (fun c1 => ?_) (fun c1 => ?_)
  case refine_2 => exact ⟨_, rfl, false, -1, rfl, (fun z => by cases z), fun _ => fail3 fun z => c1 (by have := z.1; simp; omega)⟩
  have m3 : st.length % 3 = 0 := by simp at c1; omega
  refine ⟨_, rfl, b, _, rfl, .inl (SqL.of hb2), _, _, rfl, rfl, .inl ⟨by decide, by decide⟩, _, _, rfl, rfl, _, rfl, ?_⟩
  rw [List.length_map]
  refine ite2 (fun c2 => ?_) (fun c2 => ?_)
  case refine_2 => exact ⟨_, rfl, false, -1, rfl, (fun z => by cases z), fun _ => fail3 fun z => c2 (decide_eq_true (by have := z.2.1; omega))⟩
  have m36 : st.length ≤ 36 := by have := of_decide_eq_true c2; omega
  refine ⟨_, rfl, c, _, rfl, .inl (SqL.of hc2), _, _, rfl, rfl, _, rfl, _, _, rfl, ?_, ?_⟩
  case refine_2 => exact fun hn => fail3 fun z => absurd (of_decide_eq_false hn) (by rw [List.length_map]; have := z.2.2; omega)
  intro y3
  have m60 : tx.length ≤ 60 := by have := of_decide_eq_true y3; rw [List.length_map] at this; omega
  -- the statements
  have lst3 : (stI st).length = st.length / 3 := stI_len st
  refine ⟨_, rfl, b, _, rfl, .inl (SqL.of hb2), _, _, _, st.length / 3, rfl, (by rw [List.length_map]; exact rgc3 (by omega) (by omega)), fun D3 hD3 => ?_⟩
  refine lc_it (walk_rangeC (lo := 0) (c := 3) (n := st.length / 3)) (fun i H' => LcT st3V H2 D3 ((stI st).take i) H') (LcT.start hD3) (fun i H' _ _ => trivial) ?_ ?_
  · rintro i y H3 H3' hi pv ⟨rfl, rfl⟩
    change gName 6 (.int (0 + ((i : Nat) : Int) * 3)) _ _ _
    have hb3 := pv.1 _ _ hb2
    have e0 : (0 : Int) + ((i : Nat) : Int) * 3 = ((3 * i : Nat) : Int) := by omega
    rw [e0]
    have gt : ∀ j, j < 3 → ∃ z, st[3 * i + j]? = some z ∧ (rV st)[3 * i + j]? = some (V.int z) := fun j hj => by
      have hlt : 3 * i + j < st.length := by omega
      exact ⟨st[3 * i + j], List.getElem?_eq_getElem hlt, by rw [List.getElem?_map, List.getElem?_eq_getElem hlt]; rfl⟩
    obtain ⟨z0, a0, b0⟩ := gt 0 (by decide)
    obtain ⟨z1, a1, b1⟩ := gt 1 (by decide)
    obtain ⟨z2, a2, b2⟩ := gt 2 (by decide)
    have hx := stI_at st i z0 z1 z2 a0 a1 a2
    refine ⟨rfl, _, rfl, _, rfl, b, _, _, _, rfl, rfl, SqL.of hb3, atI_nat b0, _, rfl, _, rfl, _, _, rfl, rfl, b, _, _, _, rfl, rfl, SqL.of hb3, (by rw [show ((3 * i : Nat) : Int) + 1 = ((3 * i + 1 : Nat) : Int) by omega]; exact atI_nat b1), _, rfl, _, rfl, _, _, rfl, rfl, b, _, _, _, rfl, rfl, SqL.of hb3, (by rw [show ((3 * i : Nat) : Int) + 2 = ((3 * i + 2 : Nat) : Int) by omega]; exact atI_nat b2), by show 3 ≤ sizeLine; decide, fun q hq => ?_⟩
    have := pv.push hD3 (Same.new hq) (y := .ref q) (a := (z0, z1, z2)) ⟨q, rfl, upd_same⟩ (by rw [List.length_take]; omega)
    rw [take_succ' hx]
    exact this
  rintro H3 ⟨s3, acc, hacc, racc⟩
  rw [← lst3, List.take_length] at racc
  have s13 := s12.trans s3
  have lacc : acc.length = (stI st).length := Paired.len racc
  refine ⟨_, rfl, D3, rfl, ⟨_, SqL.of hacc⟩, fun D4 hD4 => lc_list (K := K) (a := D3) (xs := acc) (LcP H3 D4 (Fil (stI st) (fun _ => true) fun x => V.bl (isStI t x))) (LcP.start hD4 rfl) (fun i H' _ pv => SqL.of (pv.1 _ _ hacc)) (fun i y H4 hy pv => ?_) (fun H4 pv => ?_)⟩
  · obtain ⟨x, hx, q, rfl, hq⟩ := tupV_at racc hy
    have s4 := pv.1
    refine ⟨q, _, rfl, SqT.of (s4 _ _ hq), rfl, _, _, rfl, _, _, rfl, _, _, rfl, rfl, rfl, _, rfl, pa, dx, _, rfl, (s13.trans s4) _ _ ho, projF_none (by decide +kernel) (by decide +kernel) (by decide +kernel) (by decide +kernel) _ _ _ _, _, rfl, _, rfl, _, rfl, pa, dx, df, kd, bl, t, x, rfl, ht, (s13.trans s4) _ _ ho, ?_⟩
    exact pv.push hD4 (Same.refl _) (Fil.yes hx rfl) (Fil.big (by omega))
  obtain ⟨s4, e4⟩ := pv
  rw [lacc, Fil.all, filter_true] at e4
  have s14 := s13.trans s4
  refine ⟨D4, (stI st).map (isStI t), rfl, SqL.of (by rw [e4, List.map_map]; rfl), _, rfl, _, _, rfl, ?_, ?_⟩
  case refine_2 =>
    intro hn
    refine (kf (if_neg ?_)).after s14
    intro z
    unfold okFile at z
    simp only [Bool.and_eq_true] at z
    rw [List.all_map] at hn
    exact absurd (z.2.2.2.1.symm.trans hn) (by decide)
  intro y4
  have g4 : (stI st).all (isStI t) = true := by rw [List.all_map] at y4; exact y4
  -- the text
  have hc4 := s14 _ _ hc
  refine ⟨_, rfl, c, rfl, ⟨_, SqL.of hc4⟩, fun D5 hD5 => lc_list (K := K) (a := c) (xs := rV tx) (LcP H4 D5 (Fil tx (fun _ => true) fun z => V.bl (decide (0 ≤ z ∧ z < (t : Int))))) (LcP.start hD5 rfl) (fun i H' _ pv => SqL.of (pv.1 _ _ hc4)) (fun i y H5 hy pv => ?_) (fun H5 pv => ?_)⟩
  · obtain ⟨z, hz, rfl⟩ := rV_at hy
    refine ⟨rfl, _, rfl, _, _, rfl, rfl, _, rfl, ?_⟩
    have go : ∀ q : Bool, q = decide (0 ≤ z ∧ z < (t : Int)) → ∃ acc, H5 D5 = some (.lst acc) ∧ acc.length < sizeLine ∧ LcP H4 D5 (Fil tx (fun _ => true) fun z => V.bl (decide (0 ≤ z ∧ z < (t : Int)))) (i + 1) (upd H5 D5 (.lst (acc ++ [.bl q]))) := fun q e => by
      subst e
      exact pv.push hD5 (Same.refl _) (Fil.yes hz rfl) (Fil.big lc)
    refine ite2 (fun c1 => ?_) (fun c1 => go false (decide_eq_false fun h => c1 (decide_eq_true h.1)).symm)
    have h1 : 0 ≤ z := of_decide_eq_true c1
    exact ⟨_, rfl, pa, A.Project, dx, _, _, rfl, (s14.trans pv.1) _ _ ho, T.clP, T.nP_tokens, projF_tokens _ _ _ _, _, _, rfl, rfl, go _ (decide_eq_decide.mpr ⟨fun h => ⟨h1, h⟩, fun h => h.2⟩)⟩
  obtain ⟨s5, e5⟩ := pv
  rw [List.length_map, Fil.all, filter_true] at e5
  have s15 := s14.trans s5
  refine ⟨D5, tx.map fun z => decide (0 ≤ z ∧ z < (t : Int)), rfl, SqL.of (by rw [e5, List.map_map]; rfl), _, rfl, _, _, rfl, ?_, ?_⟩
  case refine_2 =>
    intro hn
    refine (kf (if_neg ?_)).after s15
    intro z
    unfold okFile at z
    simp only [Bool.and_eq_true] at z
    rw [List.all_map] at hn
    exact absurd (z.2.2.2.2.symm.trans hn) (by decide)
  intro y5
  have g5 : tx.all (fun z => decide (0 ≤ z ∧ z < (t : Int))) = true := by rw [List.all_map] at y5; exact y5
  have okf : okFile t im st tx = true := by
    unfold okFile
    rw [g1, g2, g4, g5, decide_eq_true (show st.length % 3 = 0 ∧ st.length ≤ 36 ∧ tx.length ≤ 60 from ⟨m3, m36, m60⟩)]
    rfl
  rw [if_pos okf] at k
  -- the file
  have ha5 := s15 _ _ ha
  have hacc5 := (s4.trans s5) _ _ hacc
  have hc5 := s15 _ _ hc
  refine ⟨_, rfl, a, _, rfl, .inl ⟨SqL.of ha5, fun l1 hl1 => ?_⟩⟩
  have t1 : Same H5 (upd H5 l1 (.tup (rV im))) := Same.new hl1
  refine ⟨_, rfl, D3, _, rfl, .inl ⟨SqL.of (t1 _ _ hacc5), fun l2 hl2 => ?_⟩⟩
  have t2 : Same H5 (upd (upd H5 l1 (.tup (rV im))) l2 (.tup acc)) := t1.trans (Same.new hl2)
  refine ⟨_, rfl, c, _, rfl, .inl ⟨SqL.of (t2 _ _ hc5), fun l3 hl3 => ?_⟩⟩
  have t3 : Same H5 (upd (upd (upd H5 l1 (.tup (rV im))) l2 (.tup acc)) l3 (.tup (rV tx))) := t2.trans (Same.new hl3)
  have w1 : upd (upd (upd H5 l1 (.tup (rV im))) l2 (.tup acc)) l3 (.tup (rV tx)) l1 = some (.tup (rV im)) := (Same.new hl3) _ _ ((Same.new hl2) _ _ upd_same)
  have w2 : upd (upd (upd H5 l1 (.tup (rV im))) l2 (.tup acc)) l3 (.tup (rV tx)) l2 = some (.tup acc) := (Same.new hl3) _ _ upd_same
  have w3 : upd (upd (upd H5 l1 (.tup (rV im))) l2 (.tup acc)) l3 (.tup (rV tx)) l3 = some (.tup (rV tx)) := upd_same
  generalize upd (upd (upd H5 l1 (.tup (rV im))) l2 (.tup acc)) l3 (.tup (rV tx)) = H6 at t3 w1 w2 w3
  intro y dy hy hdy ne
  refine ⟨y, dy, _, _, _, rfl, upd_same, fun H7 hy7 kp => ⟨rfl, ?_⟩⟩
  have s7 : Same H6 H7 := made_same hy hdy kp
  have ni : ∀ z ∈ im, 0 ≤ z := fun z hz => (of_decide_eq_true (List.all_eq_true.mp g1 z hz)).1
  have nt : ∀ z ∈ tx, 0 ≤ z := fun z hz => (of_decide_eq_true (List.all_eq_true.mp g5 z hz)).1
  refine k _ rfl H7 y ((s15.trans t3).trans s7) ⟨dy, l1, l2, l3, acc, hy7, ?_, s7 _ _ w2, ?_, ?_⟩
  · rw [← rV_nats ni]; exact s7 _ _ w1
  · show StL H7 acc (Vbjbaj.triplesIn (Vbjbaj.nats st))
    rw [triples_eq]
    have : ∀ {us : List V} {l : List (Int × Int × Int)}, Paired (TupV st3V H3) us l → (∀ x ∈ l, isStI t x = true) → StL H7 us (l.map toSt) := by
      intro us l r
      induction r with
      | nil => exact fun _ => .nil
      | @cons v x us l h r ih =>
        intro hall
        obtain ⟨q, e1, e2⟩ := h
        have hx := hall x (by simp)
        unfold isStI at hx
        simp only [Bool.and_eq_true, decide_eq_true_eq] at hx
        obtain ⟨h1, h2, h3⟩ := hx
        refine .cons ⟨q, e1, ?_⟩ (ih fun y hy => hall y (List.mem_cons_of_mem _ hy))
        have e3 := s7 _ _ (t3 _ _ ((s4.trans s5) _ _ e2))
        rw [e3]
        unfold st3V stT toSt
        simp only [Int.toNat_of_nonneg h1.1, Int.toNat_of_nonneg h2.1, Int.toNat_of_nonneg h3.1]
    exact this racc (List.all_eq_true.mp g4)
  · rw [← rV_nats nt]; exact s7 _ _ w3
end
end Sf
/-! W20: what is asked of a project. -/
namespace Sf
open PySem PySem.Spec PyProof.Rows L2
open Vbjbaj (Statement File Project State Readings)
theorem PK.has {H : Hp} {kvs : List (Key × V)} {q : Project} {f : Nat} (h : PK H kvs q f) (g : Nat) : (valV kvs (.inl (g : Int))).isSome = (Vbjbaj.reachedFrom q f).contains g := by
  obtain ⟨ks, e, _, m⟩ := h.ks
  rw [valG_has, e, List.contains_eq_mem]
  exact decide_eq_decide.mpr (inl_mem.trans (m g))
theorem counted_len (l : List Nat) : (Vbjbaj.counted l).length = l.length + 1 := by simp [Vbjbaj.counted, Vbjbaj.ints]
theorem rV_len (l : List Int) : (rV l).length = l.length := by simp
theorem rV_app (l m : List Int) : rV l ++ rV m = rV (l ++ m) := by simp
section
variable {P : Program} {w : World} {K : PySem.W.Frag} {mg : Str → Option Value} {base : Heap} {A : Ad}
def sp_visible (A : Ad) : Sp := fun vs H Q _ => ∃ (pa : Addr) (f : Nat) (s : State), vs = [.ref pa, .int (f : Int)] ∧ f < 10 ∧ PjAt A H pa s ∧ ∀ H' r, Same H H' → H' r = some (.lst (rV (Vbjbaj.counted (Vbjbaj.visible s.project f) ++ Vbjbaj.counted (Vbjbaj.missing s.project f)))) → Q (.ref r) H'
theorem ok_visible (T : Txt K mg A) (C_paths_from : Cal P w K mg base CX0 2 "paths_from" ["files", "number", "left"] (sp_paths_from K A)) (C_listed : Cal P w K mg base CX0 1 "listed" ["some"] (sp_listed K)) {f : Addr} {fd : FuncData} (F : Fun K "visible" "visible" s_visible f fd) : FnOk P w K mg base CX0 3 f fd ["project", "number"] (sp_visible A) := by
  refine F.ok sc_visible (fun vs H Q E h => by obtain ⟨pa, f, s, rfl, _⟩ := h; rfl) (fun cdv A' outer s H vs Q E hr h => ?_)
  have hu := hu_of hr
  refine ⟨_, (pss_cons (ps_set (i := 2) sc_visible.nd rfl (Or.inl rfl) (pe_callB (call_sortedDI rfl) (by rfl) T.b_sorted (by decide +kernel) (pa_cons (pe_cal C_paths_from (hr.mono (by decide)) pass0 (pa_cons (pe_fld (pv 0) rfl) (pa_cons (pv 1) (pa_cons (pe_tup pa_nil) pa_nil)))) pa_nil)))
(pss_cons (ps_setLc (i := 3) (y := "there") (own := [("other", 4)]) (g := (gName 4)) (tt := (tB (tDIn (tVar 4) (tFld K (tVar 0) "files")))) (te := (tVar 4)) (by rfl) sc_visible.nd rfl rfl (sw_true rfl rfl rfl (by decide +kernel)) (pi_list (pv 2)) (blkOk_by (own := [("other", 4)]) (N := N_visible) (sc := defScope s_visible) (by decide +kernel)) (fun _ _ _ _ _ => (pg_name (i := 4) sc_visible.nd rfl (Or.inl rfl))) (fun _ _ _ _ _ => pts_one (pt_cmp (pc_din hu (pv 4) (pe_fld (pv 0) rfl)) (by rfl))) (fun _ _ _ _ _ => (pv 4)))
(pss_one (ps_ret (pe_op op_cat (pe_cal C_listed (hr.mono (by decide)) pass0 (pa_cons (pv 3) pa_nil)) (pe_cal C_listed (hr.mono (by decide)) pass0 (pa_cons (pe_lc (own := [("other", 4)]) (g := (gName 4)) (tt := (tB (tDNotIn (tVar 4) (tFld K (tVar 0) "files")))) (te := (tVar 4)) (by rfl) sc_visible.nd (pi_list (pv 2)) (blkOk_by (own := [("other", 4)]) (N := N_visible) (sc := defScope s_visible) (by decide +kernel)) (fun _ _ _ _ _ => (pg_name (i := 4) sc_visible.nd rfl (Or.inl rfl))) (fun _ _ _ _ _ => pts_one (pt_cmp (pc_dnotin hu (pv 4) (pe_fld (pv 0) rfl)) (by rfl))) (fun _ _ _ _ _ => (pv 4))) pa_nil))))))), ?_⟩
  obtain ⟨pa, f, s, rfl, hf, ⟨ok, dx, df, kd, bl, pj⟩, k⟩ := h
  have fld : ∀ {H1 : Hp}, Same H H1 → H1 pa = some (.ins A.Project dx (projF s.tokens df kd bl)) := fun e => e _ _ pj.ob
  have fa := pj.fu.at_
  refine ⟨_, rfl, pa, A.Project, dx, _, _, rfl, fld (Same.refl _), T.clP, T.nP_files, projF_files _ _ _ _, _, rfl, by show 0 ≤ sizeLine; decide, fun q0 hq0 => ?_⟩
  have s0 : Same H (upd H q0 (.tup [])) := Same.new hq0
  refine ⟨df, f, s.tokens, .ref q0, s.project, [], rfl, hf, ok.pw, fa.same s0, ⟨q0, rfl, .inl ⟨rfl, SqT.of upd_same⟩⟩, fun H1 r kvs s1 hr0 hr1 pk => ?_⟩
  rw [without_nil] at pk
  obtain ⟨ks, eks, nks, mks⟩ := pk.ks
  refine ⟨r, kvs, ks.map fun n : Nat => (n : Int), rfl, .inl hr1, by rw [eks, List.map_map]; rfl, by rw [List.length_map]; have := ks_size nks mks; omega, fun ys q1 hperm hsort hq1 => ?_⟩
  rw [sorted_up hperm hsort nks reached_up mks]
  have s2 := (s0.trans s1).trans (Same.new (o := .lst (nV (Vbjbaj.reachedFrom s.project f))) hq1)
  have e2 : upd H1 q1 (.lst (nV (Vbjbaj.reachedFrom s.project f))) q1 = some (.lst (nV (Vbjbaj.reachedFrom s.project f))) := upd_same
  generalize upd H1 q1 (.lst (nV (Vbjbaj.reachedFrom s.project f))) = H2 at s2 e2
  have lr := reached_size (p := s.project) (f := f)
  refine ⟨_, rfl, q1, rfl, ⟨_, SqL.of e2⟩, fun D hD => lc_list (K := K) (a := q1) (xs := nV (Vbjbaj.reachedFrom s.project f)) (LcP H2 D (Fil (Vbjbaj.reachedFrom s.project f) (Vbjbaj.doesExist s.project) fun n : Nat => V.int (n : Int))) (LcP.start hD rfl) (fun i H' _ pv => SqL.of (pv.1 _ _ e2)) (fun i y H3 hy pv => ?_) (fun H3 pv => ?_)⟩
  · obtain ⟨g, hg, rfl⟩ := nV_at hy
    obtain ⟨o, go, ho⟩ := (fa.same (s2.trans pv.1)).has g
    refine ⟨rfl, _, rfl, _, rfl, pa, A.Project, dx, _, _, rfl, fld (s2.trans pv.1), T.clP, T.nP_files, projF_files _ _ _ _, df, o, rfl, go, _, rfl, ?_⟩
    rw [ho]
    refine ite2 (fun c => ⟨_, rfl, ?_⟩) (fun c => ?_)
    · exact pv.push hD (Same.refl _) (Fil.yes hg c) (Fil.lt (by omega))
    · exact pv.skip (Same.refl _) (Fil.no hg (by simpa using c))
  obtain ⟨s3, e3⟩ := pv
  rw [nV_len, Fil.all] at e3
  refine ⟨_, rfl, D, Vbjbaj.visible s.project f, rfl, .inl (SqL.of e3), by have := visible_size (p := s.project) (f := f); omega, fun H4 r4 s4 _ e4 => ?_⟩
  have s24 := (s2.trans s3).trans s4
  have e2' := (s3.trans s4) _ _ e2
  refine ⟨_, rfl, q1, rfl, ⟨_, SqL.of e2'⟩, fun D2 hD2 => lc_list (K := K) (a := q1) (xs := nV (Vbjbaj.reachedFrom s.project f)) (LcP H4 D2 (Fil (Vbjbaj.reachedFrom s.project f) (fun g => !Vbjbaj.doesExist s.project g) fun n : Nat => V.int (n : Int))) (LcP.start hD2 rfl) (fun i H' _ pv => SqL.of (pv.1 _ _ e2')) (fun i y H5 hy pv => ?_) (fun H5 pv => ?_)⟩
  · obtain ⟨g, hg, rfl⟩ := nV_at hy
    obtain ⟨o, go, ho⟩ := (fa.same (s24.trans pv.1)).has g
    refine ⟨rfl, _, rfl, _, rfl, pa, A.Project, dx, _, _, rfl, fld (s24.trans pv.1), T.clP, T.nP_files, projF_files _ _ _ _, df, o, rfl, go, _, rfl, ?_⟩
    rw [ho]
    refine ite2 (fun c => ⟨_, rfl, ?_⟩) (fun c => ?_)
    · exact pv.push hD2 (Same.refl _) (Fil.yes hg c) (Fil.lt (by omega))
    · exact pv.skip (Same.refl _) (Fil.no hg (by simpa using c))
  obtain ⟨s5, e5⟩ := pv
  rw [nV_len, Fil.all] at e5
  have lm : (Vbjbaj.missing s.project f).length ≤ 10 := Nat.le_trans (List.length_filter_le _ _) lr
  refine ⟨D2, Vbjbaj.missing s.project f, rfl, .inl (SqL.of e5), by omega, fun H6 r6 s6 _ e6 => ?_⟩
  refine ⟨r4, r6, _, _, rfl, rfl, (s5.trans s6) _ _ e4, e6, ?_, fun r7 hr7 => ?_⟩
  · rw [rV_len, rV_len, counted_len, counted_len]
    have := visible_size (p := s.project) (f := f)
    exact Nat.le_of_lt (lt_size (by omega))
  · rw [rV_app]
    exact k _ r7 (((s24.trans s5).trans s6).trans (Same.new hr7)) upd_same
def sp_seers (A : Ad) : Sp := fun vs H Q _ => ∃ (pa : Addr) (f : Nat) (s : State), vs = [.ref pa, .int (f : Int)] ∧ PjAt A H pa s ∧ ∀ H' r, Same H H' → H' r = some (.lst (rV (Vbjbaj.counted (Vbjbaj.seers s.project f)))) → Q (.ref r) H'
theorem seers_eq (p : Project) (g : Nat) : Vbjbaj.seers p g = (exs p).filter fun f => (Vbjbaj.reachedFrom p f).contains g := by
  unfold Vbjbaj.seers exs
  rw [List.filter_filter]
  refine List.filter_congr fun f _ => ?_
  rw [Bool.and_comm]
theorem ok_seers (T : Txt K mg A) (C_paths_from : Cal P w K mg base CX0 2 "paths_from" ["files", "number", "left"] (sp_paths_from K A)) (C_listed : Cal P w K mg base CX0 1 "listed" ["some"] (sp_listed K)) {f : Addr} {fd : FuncData} (F : Fun K "seers" "seers" s_seers f fd) : FnOk P w K mg base CX0 3 f fd ["project", "number"] (sp_seers A) := by
  refine F.ok sc_seers (fun vs H Q E h => by obtain ⟨pa, f, s, rfl, _⟩ := h; rfl) (fun cdv A' outer s H vs Q E hr h => ?_)
  have hu := hu_of hr
  refine ⟨_, (pss_one (ps_ret (pe_cal C_listed (hr.mono (by decide)) pass0 (pa_cons (pe_lc (own := [("at", 2)]) (g := (gName 2)) (tt := (tB (tDIn (tVar 1) (tCall (sp_paths_from K A) [] E0 (tCons (tFld K (tVar 0) "files") (tCons (tVar 2) (tCons (tTup tNil) tNil))))))) (te := (tVar 2)) (by rfl) sc_seers.nd (pi_list (pe_callB (call_sortedDI rfl) (by rfl) T.b_sorted (by decide +kernel) (pa_cons (pe_fld (pv 0) rfl) pa_nil))) (blkOk_by (own := [("at", 2)]) (N := N_seers) (sc := defScope s_seers) (by decide +kernel)) (fun _ _ _ _ _ => (pg_name (i := 2) sc_seers.nd rfl (Or.inl rfl))) (fun _ _ _ _ _ => pts_one (pt_cmp (pc_din hu (pv 1) (pe_cal C_paths_from (hr.mono (by decide)) pass0 (pa_cons (pe_fld (pv 0) rfl) (pa_cons (pv 2) (pa_cons (pe_tup pa_nil) pa_nil))))) (by rfl))) (fun _ _ _ _ _ => (pv 2))) pa_nil)))), ?_⟩
  obtain ⟨pa, f, s, rfl, ⟨ok, dx, df, kd, bl, pj⟩, k⟩ := h
  have fld : ∀ {H1 : Hp}, Same H H1 → H1 pa = some (.ins A.Project dx (projF s.tokens df kd bl)) := fun e => e _ _ pj.ob
  have fa := pj.fu.at_
  have pw := ok.pw
  obtain ⟨kvs, rd, kf⟩ := id fa
  obtain ⟨ks, ek, k64, ksort⟩ := kf.sorted pw
  refine ⟨_, rfl, pa, A.Project, dx, _, _, rfl, fld (Same.refl _), T.clP, T.nP_files, projF_files _ _ _ _, df, kvs, ks, rfl, rd, ek, k64, fun ys r0 hperm hsort hr0 => ?_⟩
  rw [ksort ys hperm hsort]
  have s0 : Same H (upd H r0 (.lst (nV (exs s.project)))) := Same.new hr0
  have e0 : upd H r0 (.lst (nV (exs s.project))) r0 = some (.lst (nV (exs s.project))) := upd_same
  generalize upd H r0 (.lst (nV (exs s.project))) = H0 at s0 e0
  have l10 := exs_len s.project
  refine ⟨r0, rfl, ⟨_, SqL.of e0⟩, fun D hD => lc_list (K := K) (a := r0) (xs := nV (exs s.project)) (LcP H0 D (Fil (exs s.project) (fun g => (Vbjbaj.reachedFrom s.project g).contains f) fun n : Nat => V.int (n : Int))) (LcP.start hD rfl) (fun i H' _ pv => SqL.of (pv.1 _ _ e0)) (fun i y H1 hy pv => ?_) (fun H1 pv => ?_)⟩
  · obtain ⟨g, hg, rfl⟩ := nV_at hy
    have gx := (mem_exs pw).mp (List.mem_of_getElem? hg)
    have s1 := s0.trans pv.1
    refine ⟨rfl, _, rfl, _, rfl, pa, A.Project, dx, _, _, rfl, fld s1, T.clP, T.nP_files, projF_files _ _ _ _, _, rfl, by show 0 ≤ sizeLine; decide, fun q0 hq0 => ?_⟩
    have sq : Same H1 (upd H1 q0 (.tup [])) := Same.new hq0
    refine ⟨df, g, s.tokens, .ref q0, s.project, [], rfl, pw.lt gx, pw, fa.same (s1.trans sq), ⟨q0, rfl, .inl ⟨rfl, SqT.of upd_same⟩⟩, fun H2 r kv2 s2 hr0 hr1 pk => ?_⟩
    rw [without_nil] at pk
    refine ⟨r, _, rfl, DGet.k (k := .inl (f : Int)) hr1, _, rfl, ?_⟩
    rw [pk.has]
    refine ite2 (fun c => ⟨_, rfl, ?_⟩) (fun c => ?_)
    · exact pv.push hD (sq.trans s2) (Fil.yes hg c) (Fil.lt (by omega))
    · exact pv.skip (sq.trans s2) (Fil.no hg (by simpa using c))
  obtain ⟨s1, e1⟩ := pv
  rw [nV_len, Fil.all, ← seers_eq] at e1
  refine ⟨D, _, rfl, .inl (SqL.of e1), ?_, fun H2 r s2 _ e2 => k H2 r ((s0.trans s1).trans s2) e2⟩
  rw [seers_eq]
  exact Nat.le_trans (List.length_filter_le _ _) (by omega)
end
end Sf
/-! W21: more that is asked of a project. -/
namespace Sf
open PySem PySem.Spec PyProof.Rows L2
open Vbjbaj (Statement File Project State Readings)
def pathOut : Option (List Nat) → List Int
  | none => [0]
  | some l => 1 :: Vbjbaj.counted l
theorem path_len {t : Nat} {p : Project} (pw : PWf t p) {f g : Nat} (hf : f < 10) {l : List Nat} (h : Vbjbaj.path p f g = some l) : l.length ≤ 10 := by
  have b := path_best pw.graph hf h
  obtain ⟨w, hw, hl⟩ := Rch.best pw.graph hf ⟨l, b.1, b.2.1⟩
  have := (path_iff pw.graph hf).mpr hw
  rw [h] at this
  rw [Option.some.inj this]
  exact hl
theorem num_iff {z : Int} : Vbjbaj.isNumber z = true ↔ 0 ≤ z ∧ z ≤ 9 := by
  unfold Vbjbaj.isNumber Vbjbaj.inRange
  rw [Bool.and_eq_true, decide_eq_true_eq, decide_eq_true_eq]
theorem path_none_iff {t : Nat} {p : Project} (pw : PWf t p) {f g : Nat} (hf : f < 10) (h : g ∉ Vbjbaj.reachedFrom p f) : Vbjbaj.path p f g = none := by
  cases e : Vbjbaj.path p f g with
  | none => rfl
  | some l =>
    have : (Vbjbaj.path p f g).isSome = true := by rw [e]; rfl
    exact absurd ((mem_reached pw.graph hf).mpr ((path_isSome pw.graph hf).mp this)) h
section
variable {P : Program} {w : World} {K : PySem.W.Frag} {mg : Str → Option Value} {base : Heap} {A : Ad}
def sp_path (A : Ad) : Sp := fun vs H Q E => ∃ (pa : Addr) (f : Nat) (z : Int) (s : State), vs = [.ref pa, .int (f : Int), .int z] ∧ f < 10 ∧ PjAt A H pa s ∧ (Vbjbaj.isNumber z = false → Fails A H (-1) E) ∧
  (Vbjbaj.isNumber z = true → ∀ H' r, Same H H' → H' r = some (.lst (rV (pathOut (Vbjbaj.path s.project f z.toNat)))) → Q (.ref r) H')
theorem ok_path (T : Txt K mg A) (C_need : Cal P w K mg base (L2.CX P w) 3 "need" ["is_right", "code"] (sp_need A)) (C_paths_from : Cal P w K mg base CX0 2 "paths_from" ["files", "number", "left"] (sp_paths_from K A)) (C_listed : Cal P w K mg base CX0 1 "listed" ["some"] (sp_listed K)) {f : Addr} {fd : FuncData} (F : Fun K "path" "path" s_path f fd) : FnOk P w K mg base (L2.CX P w) 4 f fd ["project", "first", "second"] (sp_path A) := by
  refine F.okX sc_path (fun vs H Q E h => by obtain ⟨pa, f, z, s, rfl, _⟩ := h; rfl) (fun cdv A' outer s H vs Q E hr h => ?_)
  have hu := hu_of hr
  refine ⟨_, (pss_cons (ps_expr (pe_cal C_need (hr.mono (by decide)) (passes_call (takes_of rfl rfl rfl rfl) (fun _ _ _ _ h => h)) (pa_cons (pe_chain op_le op_le pe_int (pv 2) (pe_gl T.c_MOST_NUMBER)) (pa_cons (pe_un un_neg pe_int) pa_nil))))
(pss_cons (ps_set (i := 3) sc_path.nd rfl (Or.inl rfl) (pe_dget2 hu (pe_cal C_paths_from (hr.mono (by decide)) pass0 (pa_cons (pe_fld (pv 0) rfl) (pa_cons (pv 1) (pa_cons (pe_tup pa_nil) pa_nil)))) (pv 2) pe_non ⟨rfl, rfl, rfl, rfl⟩))
(pss_one (ps_ret (pe_ifExp (pt_cmp (pc_isN (pv 3)) (by rfl)) (pe_lst (pa_cons pe_int pa_nil)) (pe_op op_cat (pe_lst (pa_cons pe_int pa_nil)) (pe_cal C_listed (hr.mono (by decide)) pass0 (pa_cons (pv 3) pa_nil)))))))), ?_⟩
  obtain ⟨pa, f, z, s, rfl, hf, ⟨ok, dx, df, kd, bl, pj⟩, kf, k⟩ := h
  have fld : ∀ {H1 : Hp}, Same H H1 → H1 pa = some (.ins A.Project dx (projF s.tokens df kd bl)) := fun e => e _ _ pj.ob
  have fa := pj.fu.at_
  have bad : ¬ (0 ≤ z ∧ z ≤ 9) → ∃ b c, [V.bl false, V.int (-1)] = [.bl b, .int c] ∧ (b = true → False) ∧ (b = false → Fails A H c E) := fun hn => ⟨false, -1, rfl, (fun z => by cases z), fun _ => kf (by rw [← Bool.not_eq_true, num_iff]; exact hn)⟩
  refine ⟨_, rfl, _, _, rfl, rfl, _, rfl, ?_⟩
  refine ite2 (fun c1 => ?_) (fun c1 => ⟨_, rfl, false, -1, rfl, (fun z => by cases z), fun _ => kf (by rw [← Bool.not_eq_true, num_iff]; exact fun h => c1 (decide_eq_true h.1))⟩)
  have h1 : 0 ≤ z := of_decide_eq_true c1
  refine ⟨_, _, rfl, rfl, _, rfl, _, _, rfl, ?_, fun hn => kf (by rw [← Bool.not_eq_true, num_iff]; exact fun h => of_decide_eq_false hn h.2)⟩
  intro y1
  have h2 : z ≤ 9 := of_decide_eq_true y1
  have k := k (num_iff.mpr ⟨h1, h2⟩)
  obtain ⟨g, rfl⟩ := Int.eq_ofNat_of_zero_le h1
  rw [Int.toNat_natCast] at k
  refine ⟨_, rfl, pa, A.Project, dx, _, _, rfl, fld (Same.refl _), T.clP, T.nP_files, projF_files _ _ _ _, _, rfl, by show 0 ≤ sizeLine; decide, fun q0 hq0 => ?_⟩
  have s0 : Same H (upd H q0 (.tup [])) := Same.new hq0
  refine ⟨df, f, s.tokens, .ref q0, s.project, [], rfl, hf, ok.pw, fa.same s0, ⟨q0, rfl, .inl ⟨rfl, SqT.of upd_same⟩⟩, fun H1 r kvs s1 hr0 hr1 pk => ?_⟩
  rw [without_nil] at pk
  have s01 := s0.trans s1
  refine ⟨r, rfl, .inl ⟨_, .inl hr1⟩, _, rfl, _, DGet.k (k := .inl (g : Int)) hr1, ?_⟩
  by_cases c : g ∈ Vbjbaj.reachedFrom s.project f
  · obtain ⟨a, l, v1, v2, v3⟩ := pk.at_ g c
    rw [v1]
    rw [v3] at k
    have ll := path_len ok.pw hf v3
    refine ⟨_, rfl, _, rfl, ?_⟩
    refine iteF ⟨by show 1 ≤ sizeLine; decide, fun q1 hq1 => ?_⟩
    have s2 : Same H1 (upd H1 q1 (.lst [.int 1])) := Same.new hq1
    refine ⟨_, rfl, a, l, rfl, .inl (SqL.of (s2 _ _ v2)), by omega, fun H2 r2 s3 _ e3 => ?_⟩
    refine ⟨q1, r2, _, _, rfl, rfl, s3 _ _ upd_same, e3, ?_, fun r4 hr4 => k _ r4 (((s01.trans s2).trans s3).trans (Same.new hr4)) upd_same⟩
    rw [rV_len, counted_len]
    exact Nat.le_of_lt (lt_size (by simp; omega))
  · rw [pk.none_ c]
    rw [path_none_iff ok.pw hf c] at k
    refine ⟨_, rfl, _, rfl, ?_⟩
    exact iteT ⟨by show 1 ≤ sizeLine; decide, fun q1 hq1 => k _ q1 (s01.trans (Same.new hq1)) upd_same⟩
def sp_relevant (A : Ad) : Sp := fun vs H Q _ => ∃ (pa : Addr) (f : Nat) (s : State) (x : File), vs = [.ref pa, .int (f : Int)] ∧ Vbjbaj.fileAt s.project f = some x ∧ PjAt A H pa s ∧ ∀ H' r, Same H H' → H' r = some (.lst (rV (Vbjbaj.counted (Vbjbaj.joined (Vbjbaj.statementsOf s.project f) x.text) ++ Vbjbaj.shownStatements (Vbjbaj.relevantOf s.project f)))) → Q (.ref r) H'
theorem relevant_len {t : Nat} {p : Project} (pw : PWf t p) {f : Nat} : (Vbjbaj.relevantOf p f).length ≤ 120 := by
  unfold Vbjbaj.relevantOf
  split
  · simp
  · exact Nat.le_trans (List.length_filter_le _ _) (statementsOf_len pw.ok f)
theorem shownS_len (l : List Statement) : (Vbjbaj.shownStatements l).length = 3 * l.length + 1 := by
  unfold Vbjbaj.shownStatements
  rw [List.length_cons, shown_len]
theorem joined_small (l : List Statement) (tx : List Nat) : (Vbjbaj.joined l tx).length ≤ 20 := by
  have key : ∀ n t, t.length ≤ 20 → (Vbjbaj.growRounds l n t).length ≤ 20 := by
    intro n
    induction n with
    | zero => exact fun t h => h
    | succ n ih =>
      intro t h
      unfold Vbjbaj.growRounds
      simp only
      split
      · exact h
      · refine ih _ ?_
        unfold Vbjbaj.growRound
        exact Nat.le_trans (List.length_filter_le _ _) (by show (List.range 20).length ≤ 20; simp)
  unfold Vbjbaj.joined
  exact key _ _ (Nat.le_trans (List.length_filter_le _ _) (by show (List.range 20).length ≤ 20; simp))
theorem ok_relevant (T : Txt K mg A) (C_joined : Cal P w K mg base CX0 5 "joined" ["files", "number"] (sp_joined A)) (C_listed : Cal P w K mg base CX0 1 "listed" ["some"] (sp_listed K)) (C_flat : Cal P w K mg base CX0 1 "flat" ["statements"] (sp_flat K)) {f : Addr} {fd : FuncData} (F : Fun K "relevant" "relevant" s_relevant f fd) : FnOk P w K mg base CX0 6 f fd ["project", "number"] (sp_relevant A) := by
  refine F.ok sc_relevant (fun vs H Q E h => by obtain ⟨pa, f, s, x, rfl, _⟩ := h; rfl) (fun cdv A' outer s H vs Q E hr h => ?_)
  refine ⟨_, (pss_cons (ps_asg (pe_cal C_joined (hr.mono (by decide)) pass0 (pa_cons (pe_fld (pv 0) rfl) (pa_cons (pv 1) pa_nil))) (pg_tup rfl (pgs_cons (pg_name (i := 2) sc_relevant.nd rfl (Or.inl rfl)) (pgs_cons (pg_name (i := 3) sc_relevant.nd rfl (Or.inl rfl)) pgs_nil))))
(pss_one (ps_ret (pe_op op_cat (pe_cal C_listed (hr.mono (by decide)) pass0 (pa_cons (pv 2) pa_nil)) (pe_cal C_flat (hr.mono (by decide)) pass0 (pa_cons (pv 3) pa_nil)))))), ?_⟩
  obtain ⟨pa, f, s, x, rfl, hx, ⟨ok, dx, df, kd, bl, pj⟩, k⟩ := h
  have fa := pj.fu.at_
  refine ⟨_, rfl, pa, A.Project, dx, _, _, rfl, pj.ob, T.clP, T.nP_files, projF_files _ _ _ _, _, rfl, df, f, s.tokens, s.project, x, rfl, hx, ok.pw, fa, fun H1 r r1 r2 us s1 _ hr1 e1 e2 hus => ?_⟩
  refine ⟨r, _, rfl, SqT.of hr1, rfl, _, _, rfl, _, _, rfl, rfl, ?_⟩
  have lj := joined_small (Vbjbaj.statementsOf s.project f) x.text
  have lr := relevant_len ok.pw (f := f)
  refine ⟨_, rfl, r1, _, rfl, .inl (SqL.of e1), by omega, fun H2 r3 s2 _ e3 => ?_⟩
  refine ⟨_, rfl, r2, us, _, rfl, SqL.of (s2 _ _ e2), hus.same s2, by omega, fun H3 r4 s3 _ e4 => ?_⟩
  refine ⟨r3, r4, _, _, rfl, rfl, s3 _ _ e3, e4, ?_, fun r5 hr5 => ?_⟩
  · rw [rV_len, rV_len, counted_len, shownS_len]
    exact Nat.le_of_lt (lt_size (by omega))
  · rw [rV_app]
    exact k _ r5 (((s1.trans s2).trans s3).trans (Same.new hr5)) upd_same
def sp_touched (A : Ad) : Sp := fun vs H Q E => ∃ (pa : Addr) (f : Nat) (z : Int) (s : State), vs = [.ref pa, .int (f : Int), .int z] ∧ PjAt A H pa s ∧ Vbjbaj.doesExist s.project f = true ∧ (Vbjbaj.inRange z 0 ((s.tokens : Int) - 1) = false → Fails A H (-1) E) ∧
  (Vbjbaj.inRange z 0 ((s.tokens : Int) - 1) = true → ∀ H' r, Same H H' → H' r = some (.lst (rV (Vbjbaj.counted (Vbjbaj.touchedBy s.project f z.toNat)))) → Q (.ref r) H')
theorem ok_touched (T : Txt K mg A) (C_need : Cal P w K mg base (L2.CX P w) 3 "need" ["is_right", "code"] (sp_need A)) (C_seen : Cal P w K mg base CX0 3 "seen" ["files", "number"] (sp_seen A)) (C_joined : Cal P w K mg base CX0 5 "joined" ["files", "number"] (sp_joined A)) (C_listed : Cal P w K mg base CX0 1 "listed" ["some"] (sp_listed K)) {f : Addr} {fd : FuncData} (F : Fun K "touched" "touched" s_touched f fd) : FnOk P w K mg base (L2.CX P w) 6 f fd ["project", "number", "token"] (sp_touched A) := by
  refine F.okX sc_touched (fun vs H Q E h => by obtain ⟨pa, f, z, s, rfl, _⟩ := h; rfl) (fun cdv A' outer s H vs Q E hr h => ?_)
  have hu := hu_of hr
  refine ⟨_, (pss_cons (ps_expr (pe_cal C_need (hr.mono (by decide)) (passes_call (takes_of rfl rfl rfl rfl) (fun _ _ _ _ h => h)) (pa_cons (pe_chain op_le op_lt pe_int (pv 2) (pe_fld (pv 0) rfl)) (pa_cons (pe_un un_neg pe_int) pa_nil))))
(PSs.nox (pss_cons (ps_par (i := 3) (j := 4) (by rfl) sc_touched.nd rfl rfl (by decide) rfl rfl (pa_cons (pe_fld (pv 0) rfl) (pa_cons (pe_lst pa_nil) pa_nil)) (by rfl))
(pss_cons (ps_for PassesOwn.never rfl (pi_list (pe_callB (call_sortedDI rfl) (by rfl) T.b_sorted (by decide +kernel) (pa_cons (pv 3) pa_nil))) (pg_name (i := 5) sc_touched.nd rfl (Or.inl rfl)) (pss_one (ps_if (PW.pt (pw_and (pt_cmpR op_in_seq (pv 1) (pe_cal C_seen (hr.mono (by decide)) pass0 (pa_cons (pv 3) (pa_cons (pv 5) pa_nil))) (by rfl)) (pw_and1 (pt_cmpR op_in_seq (pv 2) (pe_ix ix_tup (pe_cal C_joined (hr.mono (by decide)) pass0 (pa_cons (pv 3) (pa_cons (pv 5) pa_nil))) pe_int (fun _ _ => rfl)) (by rfl))))) (pss_one (ps_expr (pe_bm PySem.F.plainAttrs_list PySem.F.slot_list_append PySem.F.type_list_append mt_append (pv 4) (pa_cons (pv 5) pa_nil)))) pss_nil)))
(pss_one (ps_ret (pe_cal C_listed (hr.mono (by decide)) pass0 (pa_cons (pv 4) pa_nil)))))))), ?_⟩
  obtain ⟨pa, f, z, s, rfl, ⟨ok, dx, df, kd, bl, pj⟩, hf, kf, k⟩ := h
  have fld : ∀ {H1 : Hp}, Same H H1 → H1 pa = some (.ins A.Project dx (projF s.tokens df kd bl)) := fun e => e _ _ pj.ob
  have fa := pj.fu.at_
  have pw := ok.pw
  have inr : Vbjbaj.inRange z 0 ((s.tokens : Int) - 1) = true ↔ 0 ≤ z ∧ z < (s.tokens : Int) := by
    unfold Vbjbaj.inRange
    rw [Bool.and_eq_true, decide_eq_true_eq, decide_eq_true_eq]
    omega
  refine ⟨_, rfl, _, _, rfl, rfl, _, rfl, ?_⟩
  refine ite2 (fun c1 => ?_) (fun c1 => ⟨_, rfl, false, -1, rfl, (fun z => by cases z), fun _ => kf (by rw [← Bool.not_eq_true, inr]; exact fun h => c1 (decide_eq_true h.1))⟩)
  have h1 : 0 ≤ z := of_decide_eq_true c1
  refine ⟨_, rfl, pa, A.Project, dx, _, _, rfl, fld (Same.refl _), T.clP, T.nP_tokens, projF_tokens _ _ _ _, _, _, rfl, rfl, _, rfl, _, _, rfl, ?_, fun hn => kf (by rw [← Bool.not_eq_true, inr]; exact fun h => of_decide_eq_false hn h.2)⟩
  intro y1
  have k := k (inr.mpr ⟨h1, of_decide_eq_true y1⟩)
  obtain ⟨g, rfl⟩ := Int.eq_ofNat_of_zero_le h1
  rw [Int.toNat_natCast] at k
  refine ⟨_, rfl, pa, A.Project, dx, _, _, rfl, fld (Same.refl _), T.clP, T.nP_files, projF_files _ _ _ _, by show 0 ≤ sizeLine; decide, fun fl hfl => ?_⟩
  refine ⟨_, _, rfl, ?_⟩
  have s0 : Same H (upd H fl (.lst [])) := Same.new hfl
  obtain ⟨kvs, rd, kf'⟩ := fa.same s0
  obtain ⟨ks, ek, k64, ksort⟩ := kf'.sorted pw
  refine ⟨_, rfl, df, kvs, ks, rfl, rd, ek, k64, fun ys r0 hperm hsort hr0 => ?_⟩
  rw [ksort ys hperm hsort]
  have nfl : fl ≠ r0 := fun z => by rw [← z, upd_same] at hr0; cases hr0
  have s1 : Same H (upd (upd H fl (.lst [])) r0 (.lst (nV (exs s.project)))) := Same.neu s0 hr0
  have e1 : upd (upd H fl (.lst [])) r0 (.lst (nV (exs s.project))) r0 = some (.lst (nV (exs s.project))) := upd_same
  have ef : upd (upd H fl (.lst [])) r0 (.lst (nV (exs s.project))) fl = some (.lst []) := by rw [upd_ne nfl, upd_same]
  generalize upd (upd H fl (.lst [])) r0 (.lst (nV (exs s.project))) = H1 at s1 e1 ef
  have l10 := exs_len s.project
  have tb : Vbjbaj.touchedBy s.project f g = (exs s.project).filter fun h => decide (f ∈ Vbjbaj.visible s.project h) && ((Vbjbaj.fileAt s.project h).any fun x => (Vbjbaj.joined (Vbjbaj.statementsOf s.project h) x.text).contains g) := by
    unfold Vbjbaj.touchedBy
    rw [seers_eq, List.filter_filter]
    refine List.filter_congr fun h hh => ?_
    have hx := (mem_exs pw).mp hh
    have : (Vbjbaj.reachedFrom s.project h).contains f = decide (f ∈ Vbjbaj.visible s.project h) := by
      rw [List.contains_eq_mem]
      refine decide_eq_decide.mpr ?_
      unfold Vbjbaj.visible
      rw [List.mem_filter]
      exact ⟨fun q => ⟨q, hf⟩, fun q => q.1⟩
    rw [this, Bool.and_comm]
  refine ⟨r0, rfl, ⟨_, SqL.of e1⟩, for_list (K := K) (a := r0) (xs := nV (exs s.project)) (fun i σ H' => ∃ x5 : Option V, σ = [some (.ref pa), some (.int (f : Int)), some (.int (g : Int)), some (.ref df), some (.ref fl), x5] ∧ SameX fl H1 H' ∧ H' fl = some (.lst (Fil (exs s.project) (fun h => decide (f ∈ Vbjbaj.visible s.project h) && ((Vbjbaj.fileAt s.project h).any fun x => (Vbjbaj.joined (Vbjbaj.statementsOf s.project h) x.text).contains g)) (fun n : Nat => V.int (n : Int)) i))) ⟨none, rfl, SameX.refl _ _, ef⟩ (fun i σ H' _ ⟨_, _, q, _⟩ => SqL.of (q _ _ nfl.symm e1)) ?_ ?_⟩
  · rintro i y σ H2 hy ⟨x5, rfl, sx, e2⟩
    obtain ⟨h, hh, rfl⟩ := nV_at hy
    have hx := (mem_exs pw).mp (List.mem_of_getElem? hh)
    obtain ⟨x, hxx⟩ := doesExist_iff.mp hx
    have s2 : Same H H2 := SameX.same s1 hfl sx
    refine ⟨_, rfl, _, rfl, _, rfl, df, h, s.tokens, s.project, rfl, pw.lt hx, pw, fa.same s2, fun H3 r3 s3 _ e3 => ?_⟩
    refine ⟨r3, _, rfl, .inl (SqL.of e3), rfl, nV_flat _, _, rfl, ?_⟩
    show (if inV (V.int (f : Int)) (nV (Vbjbaj.visible s.project h)) = true then _ else _)
    rw [inV_nV]
    refine ite2 (fun c => ?_) (fun c => ?_)
    · refine ⟨_, rfl, _, rfl, _, rfl, df, h, s.tokens, s.project, x, rfl, hxx, pw, fa.same (s2.trans s3), fun H4 r4 r5 r6 us s4 _ hr4 e5 e6 hus => ?_⟩
      refine ⟨r4, _, _, _, rfl, rfl, SqT.of hr4, rfl, r5, _, rfl, .inl (SqL.of e5), rfl, nV_flat _, _, rfl, ?_⟩
      show (if inV (V.int (g : Int)) (nV (Vbjbaj.joined (Vbjbaj.statementsOf s.project h) x.text)) = true then _ else _)
      rw [inV_nV]
      have ej : ((Vbjbaj.fileAt s.project h).any fun x => (Vbjbaj.joined (Vbjbaj.statementsOf s.project h) x.text).contains g) = decide (g ∈ Vbjbaj.joined (Vbjbaj.statementsOf s.project h) x.text) := by
        rw [hxx]
        exact List.contains_eq_mem _ _
      have s34 := s3.trans s4
      refine ite2 (fun c2 => ?_) (fun c2 => ?_)
      · have e4 := s34 _ _ e2
        refine ⟨_, rfl, .inl ⟨rfl, _, SqL.of e4⟩, _, rfl, fl, _, _, rfl, rfl, e4, Fil.lt (by omega), ?_⟩
        refine ⟨_, rfl, (sx.more s34).put, ?_⟩
        rw [upd_same, Fil.yes hh (by rw [c, ej, c2]; rfl)]
      · refine ⟨_, rfl, sx.more s34, ?_⟩
        rw [s34 _ _ e2, Fil.no hh (by rw [c, ej]; simpa using c2)]
    · refine iteF ⟨_, rfl, sx.more s3, ?_⟩
      rw [s3 _ _ e2, Fil.no hh (by rw [Bool.not_eq_true] at c; rw [c]; rfl)]
  · rintro σ H2 ⟨x5, rfl, sx, e2⟩
    have s2 : Same H H2 := SameX.same s1 hfl sx
    rw [nV_len, Fil.all, ← tb] at e2
    refine ⟨_, rfl, fl, _, rfl, .inl (SqL.of e2), ?_, fun H3 r3 s3 _ e3 => k H3 r3 (s2.trans s3) e3⟩
    rw [tb]
    exact Nat.le_trans (List.length_filter_le _ _) (by omega)
end
end Sf
/-! W22a: dict(pairs), the keys tuples. -/
namespace Sf
open PySem PySem.Spec PyProof.Rows L2
def mergeT (acc kvs : List (List L2.Key × V)) : List (List L2.Key × V) := kvs.foldl (fun acc kv => putK acc kv.1 kv.2) acc
theorem length_mergeT : ∀ (kvs acc : List (List L2.Key × V)), (mergeT acc kvs).length ≤ acc.length + kvs.length
  | [], acc => Nat.le_refl _
  | kv :: kvs, acc => by
    have h1 := length_mergeT kvs (putK acc kv.1 kv.2)
    have h2 := L2.length_putK acc kv.1 kv.2
    show (mergeT (putK acc kv.1 kv.2) kvs).length ≤ _
    rw [List.length_cons]
    omega
section
variable {X : Cx}
def rDictT (K : PySem.W.Frag) : List V → Hp → VK → Prop := fun xs H Q => ∃ (a : Addr) (ps : List Addr) (kvs : List (List L2.Key × V)), xs = [.ref a] ∧ SqL K H a (ps.map V.ref) ∧ Paired (fun p kv => ∃ b, SqT K H p [.ref b, kv.2] ∧ H b = some (.tup (kv.1.map kV))) ps kvs ∧
    ∀ p, H p = none → Q (.ref p) (upd H p (.dT (mergeT [] kvs)))
theorem tpairs_of {pins : List (Addr × Obj)} {σ : L2.St} {H : Hp} {s : Shared} (I : Inv X pins σ H s) : ∀ {ps : List Addr} {kvs : List (List L2.Key × V)}, Paired (fun p kv => ∃ b, SqT X.K H p [.ref b, kv.2] ∧ H b = some (.tup (kv.1.map kV))) ps kvs →
    ∃ prs : List (List L2.Key × Addr × Value), KT H kvs prs ∧ prs.length = ps.length ∧ ∀ (j : Nat) (q : List L2.Key × Addr × Value), prs[j]? = some q → ∃ (b : Addr), ps[j]? = some b ∧ IsTup s.heap b #[.ref q.2.1, q.2.2]
  | _, _, .nil => ⟨[], .nil, rfl, fun j q e => by simp at e⟩
  | _, _, .cons (a := p) (b := kv) h t => by
    obtain ⟨prs, r, hl, hp⟩ := tpairs_of I t
    obtain ⟨b, hb, hk⟩ := h
    obtain ⟨its, rv, ht, _⟩ := I.tuple hb
    obtain ⟨u, y, ei, ru, ry⟩ := vals2 rv
    subst ei
    cases ru
    refine ⟨(kv.1, b, y) :: prs, .cons ⟨rfl, hk, ry⟩ r, by rw [List.length_cons, List.length_cons, hl], fun j q e => ?_⟩
    cases j with
    | zero =>
      have e' : (kv.1, b, y) = q := Option.some.inj e
      subst e'
      exact ⟨p, rfl, ht⟩
    | succ j =>
      obtain ⟨b', e1, e2⟩ := hp j q (by simpa using e)
      exact ⟨b', by simpa using e1, e2⟩
theorem KT.mergeT {H : Hp} {kvs : List (List L2.Key × V)} {prs : List (List L2.Key × Addr × Value)} (h : KT H kvs prs) : ∀ {acc : List (List L2.Key × V)} {bcc : List (List L2.Key × Addr × Value)}, KT H acc bcc → KT H (Sf.mergeT acc kvs) (storedAllH bcc prs) := by
  induction h with
  | nil => exact fun h => h
  | @cons p q ps qs h t ih =>
    intro acc bcc g
    have z : KT H (putK acc p.1 p.2) (storedH bcc p.1 q.2.1 q.2.2) := L2.KT.put g p.1 h.2.1 h.2.2
    rw [h.1] at z
    show KT H (Sf.mergeT (putK acc p.1 p.2) ps) (storedAllH (storedH bcc q.1 q.2.1 q.2.2) qs)
    rw [h.1]
    exact ih z
theorem call_dictT (hcalm : X.calm = true) (hu : X.A.units + 64 < cLine) : CallR X (.type "dict") (rDictT X.K) := by
  intro pins s σ H xs us Q I r q
  obtain ⟨a, ps, kvs, ex, hq, hp, q⟩ := q
  subst ex
  obtain ⟨u, eu, rx⟩ := vals1 r
  subst eu
  cases rx
  obtain ⟨its, rv, pl, hz⟩ := I.list hq
  have ei := refs_at rv
  subst ei
  rw [List.length_map] at hz
  obtain ⟨prs, rel, hl, hpr⟩ := tpairs_of I hp
  obtain ⟨o, n, ho, hc, hd, hdat⟩ := pl
  have P := PairArg.list (prog := X.prog) (w := X.w) a (ps.map Value.ref).toArray (fun j => ps.getD j 0) (prs.map fun q => (Value.ref q.2.1, q.2.2))
  refine PySem.call_dict_pairsH (knd := tupleKind (mixKind X.prog X.w)) (ps := prs) P (I.ok.hd hcalm) (tupleKind_room_in1 (by show X.A.units + 1 + 1 < cLine; omega)) ⟨⟨o, n, ho, hc, hd, hdat⟩, ?_, ?_⟩ ⟨by rw [List.length_map], ?_⟩ ?_ (by rw [List.length_map, hl]; exact hz) fun h' tk dd' k => ?_
  · simp [hl]
  · intro j k v e
    rw [List.getElem?_map] at e
    obtain ⟨q', e1, e2⟩ := Option.map_eq_some_iff.mp e
    cases e2
    obtain ⟨b, e3, e4⟩ := hpr j q' e1
    refine ⟨by simp [e3], .inl ?_⟩
    have : ps.getD j 0 = b := by rw [List.getD_eq_getElem?_getD, e3]; rfl
    show s.heap.IsTuple (ps.getD j 0) #[Value.ref q'.2.1, q'.2.2]
    rw [this]
    exact e4
  · intro i key v e
    have e : (prs.map fun q => (Value.ref q.2.1, q.2.2))[i]? = some (key, v) := e
    rw [List.getElem?_map] at e
    obtain ⟨q', e1, e2⟩ := Option.map_eq_some_iff.mp e
    cases e2
    exact ⟨q'.1, q'.2.1, e1, rfl⟩
  · intro h' hk x hx
    have : ∀ {l : List (List L2.Key × V)} {m : List (List L2.Key × Addr × Value)}, KT H l m → ∀ x ∈ m, (tupleKind (mixKind X.prog X.w)).is h' x.1 x.2.1 := by
      intro l m q
      induction q with
      | nil => intro x hx; exact nomatch hx
      | @cons p q ps qs hq t ih =>
        intro x hx
        rcases List.mem_cons.mp hx with e | hx
        · subst e
          obtain ⟨o, it, n, h1, h2⟩ := key_of (P := X.prog) (w := X.w) I.hok (by rw [← hq.1]; exact hq.2.1 : H x.2.1 = some (.tup (x.1.map kV)))
          exact ⟨o, it, n, hk _ _ (Nat.ne_of_lt (Heap.lt_size h1)) (by simp) h1, h2⟩
        · exact ih x hx
    exact this rel x hx
  · have hm : (s.heap.objs.size == sysModules) = false := beq_eq_false_iff_ne.mpr (Nat.ne_of_gt I.big)
    have hlen : (mergeT [] kvs).length ≤ sizeLine := by
      refine Nat.le_trans (length_mergeT kvs []) ?_
      rw [List.length_nil, Nat.zero_add, Paired.length rel, hl]
      exact hz
    obtain ⟨o', es, ep, hq', h2, h3, h4, _, h5⟩ := dd'
    have hf : H s.heap.objs.size = none := I.hok.fresh (Nat.le_refl _)
    exact ⟨.ref s.heap.objs.size, upd H s.heap.objs.size (.dT (mergeT [] kvs)), I.laid (t' := tk) (fun b o e => k b o (by simp) e) (Nat.le_refl _) (show ObjOk X.prog X.w _ _ _ (.dT (mergeT [] kvs)) from ⟨hlen, hm, _, (Sf.KT.mergeT rel .nil).keeps (fun b ys e => by rw [upd_ne (ne_of_none e hf)]; exact e), o', es, ep, hq', h2, h3, h4, h5⟩), rfl, q _ hf⟩
end
end Sf
/-! W22b: min of a list of pairs of numbers. -/
namespace Sf
open PySem PySem.Spec PyProof.Rows L2
def cod (p : Nat × Nat) : Int := 1000 * (p.1 : Int) + (p.2 : Int)
theorem lex_cod {p q : Nat × Nat} (hp : p.2 < 1000) (hq : q.2 < 1000) : HT.lexLt [(p.1 : Int), (p.2 : Int)] [(q.1 : Int), (q.2 : Int)] = decide (cod p < cod q) := by
  rw [HT.lexLt_cons, HT.lexLt_cons, HT.lexLt_nil_nil]
  unfold cod
  by_cases e : (p.1 : Int) = (q.1 : Int)
  · rw [if_pos e]
    by_cases e2 : (p.2 : Int) = (q.2 : Int)
    · rw [if_pos e2]
      exact (decide_eq_false (by omega)).symm
    · rw [if_neg e2]
      exact decide_eq_decide.mpr (by omega)
  · rw [if_neg e]
    exact decide_eq_decide.mpr (by omega)
section
variable {X : Cx}
def rMinP (K : PySem.W.Frag) : List V → Hp → VK → Prop := fun vs H Q => ∃ (a : Addr) (ts : List Addr) (ps : List (Nat × Nat)), vs = [V.ref a] ∧ SqL K H a (ts.map V.ref) ∧ Paired (fun t (p : Nat × Nat) => SqT K H t [.int (p.1 : Int), .int (p.2 : Int)]) ts ps ∧ 0 < ts.length ∧ (∀ p ∈ ps, p.2 < 1000) ∧
  ∀ (i : Nat) (t : Addr) (p : Nat × Nat), ts[i]? = some t → ps[i]? = some p → (∀ q ∈ ps, cod p ≤ cod q) → Q (.ref t) H
theorem pair_at {F : Addr → Nat × Nat → Prop} : ∀ {ts : List Addr} {ps : List (Nat × Nat)}, Paired F ts ps → ∀ {i : Nat} {t : Addr}, ts[i]? = some t → ∃ p, ps[i]? = some p ∧ F t p
  | _, _, .nil, i, t, h => by simp at h
  | _, _, .cons h _, 0, t, e => by
    have : _ = t := Option.some.inj e
    subst this
    exact ⟨_, rfl, h⟩
  | _, _, .cons _ r, i + 1, t, e => pair_at r (i := i) e
theorem cr_minP (hc : X.calm = true) (hu : X.A.units + 64 < cLine) : CallR X (.builtin "min") (rMinP X.K) := by
  intro pins s σ H vs us Q I r h
  obtain ⟨a, ts, ps, rfl, hs, hp, hne, hb, q⟩ := h
  rw [Vals.ref1 r]
  obtain ⟨its, rv, hl, _⟩ := I.list hs
  have ei := refs_at rv
  subst ei
  have hlt : a < s.heap.objs.size := by obtain ⟨o, ho, _⟩ := hl.isList; exact Heap.lt_size ho
  have lps : ps.length = ts.length := (Paired.len hp).symm
  have sz : (ts.map Value.ref).toArray.size = ts.length := by simp
  have at_ : ∀ {i : Nat} {v : Value}, (ts.map Value.ref).toArray[i]? = some v → ∃ t p, v = .ref t ∧ ts[i]? = some t ∧ ps[i]? = some p ∧ TS.TupInts s.heap (.ref t) [(p.1 : Int), (p.2 : Int)] := fun {i v} e => by
    have e' : (ts.map Value.ref)[i]? = some v := by simpa using e
    rw [List.getElem?_map] at e'
    obtain ⟨t, e1, e2⟩ := Option.map_eq_some_iff.mp e'
    obtain ⟨p, e3, e4⟩ := pair_at hp e1
    exact ⟨t, p, e2.symm, e1, e3, tupI_raw I (ns := [(p.1 : Int), (p.2 : Int)]) e4⟩
  refine call_min_walkH (wpAny_pyIter_list hl.isList ?_)
  refine ⟨s.heap.objs.size, _, _, _, ts.length, _, _, s.heap, fun i j => decide (cod (ps.getD i (0, 0)) < cod (ps.getD j (0, 0))), rfl, sz ▸ (Walks.list (A := X.A.in1) (I.ok.hd hc) s.heap.objs.size a (Nat.ne_of_lt hlt) (ts.map Value.ref).toArray).toS, ⟨⟨_, Heap.get?_push_size _ rfl, rfl, rfl⟩, hl.isList.at fun o e => Heap.get?_push_of_some _ e⟩, fun b hb => ?_, hne, fun b o e => ?_, fun b o e => Heap.get?_push_of_some _ e, ?_, fun v s' hP hm => ?_⟩
  · show b < (s.heap.push _).objs.size
    rw [Heap.size_push]
    rcases List.mem_cons.mp hb with e | hb
    · rw [e]; exact Nat.lt_succ_self _
    · rw [List.mem_singleton.mp hb]; exact Nat.lt_succ_of_lt hlt
  · intro z
    rw [List.mem_singleton.mp z] at e
    exact absurd (Heap.lt_size e) (Nat.lt_irrefl _)
  · intro i j vi vj s2 Q2 E2 hk hi hj hq
    obtain ⟨t, p, rfl, e1, e2, e3⟩ := at_ hi
    obtain ⟨t', p', rfl, e1', e2', e3'⟩ := at_ hj
    obtain ⟨b1, x1, f1, f2, f3⟩ := e3
    obtain ⟨b2, x2, g1, g2, g3⟩ := e3'
    cases f1
    cases g1
    have d1 : ps.getD i (0, 0) = p := by rw [List.getD_eq_getElem?_getD, e2]; rfl
    have d2 : ps.getD j (0, 0) = p' := by rw [List.getD_eq_getElem?_getD, e2']; rfl
    have := HT.lt_tupInts (prog := X.prog) (w := X.w) (A := X.A.in1) (E := E2) (s := s2) (f2.keeps hk) (g2.keeps hk) f3 g3 (Q := Q2) (by show X.A.units + 1 < cLine; omega) (by
      rw [lex_cod (hb p (List.mem_of_getElem? e2)) (hb p' (List.mem_of_getElem? e2'))]
      have hq' : Q2 (.bool (decide (cod (ps.getD i (0, 0)) < cod (ps.getD j (0, 0))))) s2 := hq
      rw [d1, d2] at hq'
      exact hq')
    exact this
  · obtain ⟨h', g', d', t', os'⟩ := s'
    obtain ⟨m1, m2, m3, m4, m5⟩ := hm
    cases m2
    cases m3
    cases m4
    obtain ⟨t, p, rfl, e1, e2, e3⟩ := at_ hP
    have d1 : ps.getD (argBest (fun i j => decide (cod (ps.getD i (0, 0)) < cod (ps.getD j (0, 0)))) (ts.length - 1)) (0, 0) = p := by rw [List.getD_eq_getElem?_getD, e2]; rfl
    obtain ⟨b1, b2⟩ := argBest_lt (fun i => cod (ps.getD i (0, 0))) (ts.length - 1)
    refine ⟨.ref t, H, I.kept (t' := t') fun b o e => m1 b o (fun hm => ?_) (Heap.get?_push_of_some _ e), rfl, q _ t p e1 e2 fun y hy => ?_⟩
    · rw [List.mem_singleton.mp hm] at e
      exact absurd (Heap.lt_size e) (Nat.lt_irrefl _)
    · obtain ⟨i, hi⟩ := List.getElem?_of_mem hy
      have hi' : i < ps.length := (List.getElem?_eq_some_iff.mp hi).1
      have := b2 i (by omega)
      rw [d1] at this
      have d2 : ps.getD i (0, 0) = y := by rw [List.getD_eq_getElem?_getD, hi]; rfl
      rw [d2] at this
      exact this
end
end Sf
/-! W22: rings told, summary, cuts told, reasons. -/
namespace Sf
open PySem PySem.Spec PyProof.Rows L2
open Vbjbaj (Statement File Project State Readings)
theorem ringAt_len {p : Project} {f : Nat} : (ringAt p f).length ≤ 10 := Nat.le_trans (List.length_filter_le _ _) visible_size
theorem ring_len {p : Project} : ∀ l ∈ Vbjbaj.ringsOf p, l.length ≤ 10 := fun l hl => by
  rw [ringsOf_eq, List.mem_filterMap] at hl
  obtain ⟨f, _, h⟩ := hl
  unfold ringIf at h
  split at h
  · cases h; exact ringAt_len
  · cases h
theorem rings_len {p : Project} : (Vbjbaj.ringsOf p).length ≤ 10 := by
  rw [ringsOf_eq]
  exact Nat.le_trans (List.length_filterMap_le _ _) (exs_len p)
theorem flat_len {α : Type} (g : α → List Int) (k : Nat) : ∀ l : List α, (∀ x ∈ l, (g x).length ≤ k) → (l.flatMap g).length ≤ k * l.length
  | [], _ => by simp
  | a :: l, h => by
    have h1 := h a (by simp)
    have h2 := flat_len g k l fun x hx => h x (List.mem_cons_of_mem _ hx)
    rw [List.flatMap_cons, List.length_append, List.length_cons, Nat.mul_add, Nat.mul_one]
    omega
theorem paired_at {α β : Type} {F : α → β → Prop} : ∀ {l : List α} {m : List β}, Paired F l m → ∀ {i : Nat} {x : α}, l[i]? = some x → ∃ y, m[i]? = some y ∧ F x y
  | _, _, .nil, i, x, h => by simp at h
  | _, _, .cons h _, 0, x, e => by
    have : _ = x := Option.some.inj e
    subst this
    exact ⟨_, rfl, h⟩
  | _, _, .cons _ r, i + 1, x, e => paired_at r (i := i) e
section
variable {P : Program} {w : World} {K : PySem.W.Frag} {mg : Str → Option Value} {base : Heap} {A : Ad}
def sp_all_rings (A : Ad) : Sp := fun vs H Q _ => ∃ (pa : Addr) (s : State), vs = [.ref pa] ∧ PjAt A H pa s ∧ ∀ H' r, Same H H' → H' r = some (.lst (rV (((Vbjbaj.ringsOf s.project).length : Int) :: (Vbjbaj.ringsOf s.project).flatMap Vbjbaj.counted))) → Q (.ref r) H'
theorem ok_all_rings (T : Txt K mg A) (C_rings : Cal P w K mg base CX0 4 "rings" ["files"] (sp_rings A)) (C_listed : Cal P w K mg base CX0 1 "listed" ["some"] (sp_listed K)) {f : Addr} {fd : FuncData} (F : Fun K "all_rings" "all_rings" s_all_rings f fd) : FnOk P w K mg base CX0 5 f fd ["project"] (sp_all_rings A) := by
  refine F.ok sc_all_rings (fun vs H Q E h => by obtain ⟨pa, s, rfl, _⟩ := h; rfl) (fun cdv A' outer s H vs Q E hr h => ?_)
  refine ⟨_, (pss_cons (ps_set (i := 1) sc_all_rings.nd rfl (Or.inl rfl) (pe_cal C_rings (hr.mono (by decide)) pass0 (pa_cons (pe_fld (pv 0) rfl) pa_nil)))
(pss_cons (ps_set (i := 2) sc_all_rings.nd rfl (Or.inl rfl) (pe_lst (pa_cons (pe_callB call_len_seq (by rfl) T.b_len (by decide +kernel) (pa_cons (pv 1) pa_nil)) pa_nil)))
(pss_cons (ps_for PassesOwn.never rfl (pi_list (pv 1)) (pg_name (i := 3) sc_all_rings.nd rfl (Or.inl rfl)) (pss_one (ps_expr (pe_bm PySem.F.plainAttrs_list PySem.F.slot_list_extend PySem.F.type_list_extend mt_extend (pv 2) (pa_cons (pe_cal C_listed (hr.mono (by decide)) pass0 (pa_cons (pv 3) pa_nil)) pa_nil)))))
(pss_one (ps_ret (pv 2)))))), ?_⟩
  obtain ⟨pa, s, rfl, ⟨ok, dx, df, kd, bl, pj⟩, k⟩ := h
  obtain ⟨kvs, hd, kf⟩ := pj.fu
  refine ⟨_, rfl, pa, A.Project, dx, _, _, rfl, pj.ob, T.clP, T.nP_files, projF_files _ _ _ _, df, s.tokens, s.project, kvs, rfl, ok.pw, hd, kf, fun H1 r acc s1 e1 r1 => ?_⟩
  have lacc := Paired.len r1
  have l10 := rings_len (p := s.project)
  refine ⟨_, rfl, r, _, rfl, .inl (SqL.of e1), by show 1 ≤ sizeLine; decide, fun fl hfl => ?_⟩
  have nfr : r ≠ fl := fun z => by rw [z, hfl] at e1; cases e1
  refine ⟨_, rfl, r, rfl, ⟨_, SqL.of ((Same.new hfl) _ _ e1)⟩, for_list (K := K) (a := r) (xs := acc) (fun i σ H' => ∃ x3 : Option V, σ = [some (.ref pa), some (.ref r), some (.ref fl), x3] ∧ Same H1 H' ∧ H' fl = some (.lst (V.int (acc.length : Nat) :: rV (((Vbjbaj.ringsOf s.project).take i).flatMap Vbjbaj.counted)))) ⟨none, rfl, Same.new hfl, by rw [upd_same]; rfl⟩ (fun i σ H' _ ⟨_, _, q, _⟩ => SqL.of (q _ _ e1)) ?_ ?_⟩
  · rintro i y σ H2 hy ⟨x3, rfl, s2, e2⟩
    have := paired_at r1 hy
    obtain ⟨l, hl, b, rfl, nb, hb⟩ := this
    have ll := ring_len l (List.mem_of_getElem? hl)
    refine ⟨_, rfl, .inl ⟨rfl, _, SqL.of e2⟩, _, rfl, b, l, rfl, .inl (SqL.of (s2 _ _ hb)), by omega, fun H3 r3 s3 hr0 e3 => ?_⟩
    refine ⟨fl, r3, _, _, rfl, rfl, s3 _ _ e2, e3, ?_, _, rfl, Same.put (s2.trans s3) hfl, ?_⟩
    · have := flat_len Vbjbaj.counted 11 ((Vbjbaj.ringsOf s.project).take i) fun x hx => by rw [counted_len]; have := ring_len x (List.mem_of_mem_take hx); omega
      rw [List.length_take] at this
      rw [List.length_cons, rV_len, rV_len, counted_len]
      exact Nat.le_of_lt (lt_size (by omega))
    · rw [upd_same, take_succ' hl, List.flatMap_append, ← rV_app]
      simp
  · rintro σ H2 ⟨x3, rfl, s2, e2⟩
    rw [lacc, List.take_length] at e2
    exact ⟨_, rfl, k H2 fl (s1.trans s2) e2⟩
def summaryOut (s : State) : List Int := if s.tokens = 0 then [0] else Vbjbaj.ints [1, s.tokens, ((List.range 10).filter (Vbjbaj.doesExist s.project)).length, (Vbjbaj.pendingOf s.project s.readings).length, s.past.length]
def sp_summary (A : Ad) : Sp := fun vs H Q _ => ∃ (pa : Addr) (s : State), vs = [.ref pa] ∧ PjAt A H pa s ∧ ∀ H' r, Same H H' → H' r = some (.lst (rV (summaryOut s))) → Q (.ref r) H'
theorem kf_len {C : Addr} {H : Hp} {kvs : List (Key × V)} {t : Nat} {p : Project} (w : PWf t p) (h : KF C H kvs p) : kvs.length = (exs p).length := by
  obtain ⟨ks, ek, mk⟩ := h.ks
  have nks : ks.Nodup := nodup_inl (by have := h.nd; rwa [ek] at this)
  rw [map_len ek]
  have h1 := nodup_sub_len ks (exs p) nks fun x hx => (mem_exs w).mpr ((mk x).mp hx)
  have h2 := nodup_sub_len (exs p) ks ((exs_up p).imp fun h => Nat.ne_of_lt h) fun x hx => (mk x).mpr ((mem_exs w).mp hx)
  omega
theorem ok_summary (T : Txt K mg A) (M_pending : MCal P w K mg base CX0 7 A.Project "pending" ["self", "files"] (sp_pending A)) {f : Addr} {fd : FuncData} (F : Fun K "summary" "summary" s_summary f fd) : FnOk P w K mg base CX0 8 f fd ["project"] (sp_summary A) := by
  refine F.ok sc_summary (fun vs H Q E h => by obtain ⟨pa, s, rfl, _⟩ := h; rfl) (fun cdv A' outer s H vs Q E hr h => ?_)
  refine ⟨_, (pss_cons (ps_if (pt_cmpR op_eq (pe_fld (pv 0) rfl) pe_int (nomark _)) (pss_one (ps_ret (pe_lst (pa_cons pe_int pa_nil)))) pss_nil)
(pss_cons (ps_set (i := 1) sc_summary.nd rfl (Or.inl rfl) (pe_callB call_len_seq (by rfl) T.b_len (by decide +kernel) (pa_cons (pe_mcal M_pending T.clP (pv 0) (hr.mono (by decide)) pass0 (pa_cons (pe_fld (pv 0) rfl) pa_nil)) pa_nil)))
(pss_one (ps_ret (pe_lst (pa_cons pe_int (pa_cons (pe_fld (pv 0) rfl) (pa_cons (pe_callB call_lenD (by rfl) T.b_len (by decide +kernel) (pa_cons (pe_fld (pv 0) rfl) pa_nil)) (pa_cons (pv 1) (pa_cons (pe_callB call_len_seq (by rfl) T.b_len (by decide +kernel) (pa_cons (pe_fld (pv 0) rfl) pa_nil)) pa_nil)))))))))), ?_⟩
  obtain ⟨pa, s, rfl, ⟨ok, dx, df, kd, bl, pj⟩, k⟩ := h
  have fld : ∀ {H1 : Hp}, Same H H1 → H1 pa = some (.ins A.Project dx (projF s.tokens df kd bl)) := fun e => e _ _ pj.ob
  unfold summaryOut at k
  refine ⟨_, rfl, pa, A.Project, dx, _, _, rfl, pj.ob, T.clP, T.nP_tokens, projF_tokens _ _ _ _, rfl, _, rfl, ?_⟩
  rw [dec_int]
  refine ite2 (fun c => ?_) (fun c => ?_)
  · have c' : s.tokens = 0 := by simpa using c
    rw [if_pos c'] at k
    exact ⟨by show 1 ≤ sizeLine; decide, fun q hq => k _ q (Same.new hq) upd_same⟩
  · have c' : ¬ s.tokens = 0 := by simpa using c
    rw [if_neg c'] at k
    obtain ⟨kvs, hd, kf⟩ := pj.fu
    obtain ⟨vs, hvs, rvs⟩ := pj.be
    refine ⟨_, rfl, pa, dx, _, rfl, pj.ob, projF_none (by decide +kernel) (by decide +kernel) (by decide +kernel) (by decide +kernel) _ _ _ _, _, rfl, pa, A.Project, dx, _, _, rfl, pj.ob, T.clP, T.nP_files, projF_files _ _ _ _, pa, df, dx, df, kd, bl, s.tokens, s.tokens, s.project, s.readings, rfl, pj.ob, pj.ke, ok.pw, pj.fu.at_, fun H1 q s1 _ e1 => ?_⟩
    refine ⟨q, _, rfl, .inl (SqL.of e1), ?_⟩
    refine ⟨_, rfl, pa, A.Project, dx, _, _, rfl, fld s1, T.clP, T.nP_tokens, projF_tokens _ _ _ _, _, rfl, pa, A.Project, dx, _, _, rfl, fld s1, T.clP, T.nP_files, projF_files _ _ _ _, df, kvs, rfl, s1 _ _ hd, _, rfl, _, rfl, pa, A.Project, dx, _, _, rfl, fld s1, T.clP, T.nP_before, projF_before _ _ _ _, bl, _, rfl, .inl (SqL.of (s1 _ _ hvs)), by show 5 ≤ sizeLine; decide, fun r hr => k _ r (s1.trans (Same.new hr)) ?_⟩
    rw [upd_same, rV_ints, kf_len ok.pw kf, Paired.len rvs, List.length_reverse, nV_len]
    rfl
end
end Sf
/-! W23: cuts told, cuts checked, reasons. -/
namespace Sf
open PySem PySem.Spec PyProof.Rows L2
open Vbjbaj (Statement File Project State Readings)
def secondCode (p : Project) (f : Nat) (z : Int) : Option Int := if Vbjbaj.isNumber z = false then some (-1) else if Vbjbaj.doesExist p z.toNat = false then some (-3) else if f = z.toNat then some (-4) else none
theorem path_lenG {p : Project} (G : Graph (Vbjbaj.importsOf p)) {f g : Nat} (hf : f < 10) {l : List Nat} (h : Vbjbaj.path p f g = some l) : l.length ≤ 10 := by
  have b := path_best G hf h
  obtain ⟨w, hw, hl⟩ := Rch.best G hf ⟨l, b.1, b.2.1⟩
  have := (path_iff G hf).mpr hw
  rw [h] at this
  rw [Option.some.inj this]
  exact hl
theorem path_noneG {p : Project} (G : Graph (Vbjbaj.importsOf p)) {f g : Nat} (hf : f < 10) (h : g ∉ Vbjbaj.reachedFrom p f) : Vbjbaj.path p f g = none := by
  cases e : Vbjbaj.path p f g with
  | none => rfl
  | some l =>
    have : (Vbjbaj.path p f g).isSome = true := by rw [e]; rfl
    exact absurd ((mem_reached G hf).mpr ((path_isSome G hf).mp this)) h
theorem shownP_len (l : List (Nat × Nat)) : (l.flatMap fun y => Vbjbaj.ints [y.1, y.2]).length = 2 * l.length := by
  induction l with
  | nil => rfl
  | cons y l ih =>
    rw [List.flatMap_cons, List.length_append, ih, List.length_cons]
    show 2 + _ = _
    omega
def checkOut : Option (List Nat) → List Int
  | none => [1]
  | some l => 0 :: Vbjbaj.counted l
theorem pairs_at : ∀ (l : List Int) (i : Nat) (a b : Int), l[2 * i]? = some a → l[2 * i + 1]? = some b → (Vbjbaj.pairsIn (Vbjbaj.nats l))[i]? = some (a.toNat, b.toNat)
  | [], i, a, b, h, _ => by simp at h
  | [_], i, a, b, _, h => by simp at h
  | x :: y :: r, 0, a, b, h1, h2 => by
    have e1 : x = a := Option.some.inj h1
    have e2 : y = b := Option.some.inj h2
    subst e1 e2
    rfl
  | x :: y :: r, i + 1, a, b, h1, h2 => by
    have : ∀ k, (x :: y :: r)[2 * (i + 1) + k]? = r[2 * i + k]? := fun k => by
      rw [show 2 * (i + 1) + k = (2 * i + k) + 1 + 1 by omega]
      rfl
    exact pairs_at r i a b ((this 0).symm.trans h1) ((this 1).symm.trans h2)
theorem pairs_len : ∀ l : List Int, (Vbjbaj.pairsIn (Vbjbaj.nats l)).length = l.length / 2
  | [] => rfl
  | [_] => by simp [Vbjbaj.nats, Vbjbaj.pairsIn]
  | x :: y :: r => by
    show (Vbjbaj.pairsIn (Vbjbaj.nats r)).length + 1 = _
    rw [pairs_len r]
    simp only [List.length_cons]
    omega
theorem mergeT_mem {k : List Key} : ∀ (kvs acc : List (List Key × V)), k ∈ (mergeT acc kvs).map (·.1) ↔ k ∈ acc.map (·.1) ∨ k ∈ kvs.map (·.1)
  | [], acc => by simp [mergeT]
  | kv :: kvs, acc => by
    show k ∈ (mergeT (putK acc kv.1 kv.2) kvs).map (·.1) ↔ _
    rw [mergeT_mem kvs, putK_map, List.map_cons, List.mem_cons]
    split
    · rename_i h
      constructor
      · rintro (h' | h')
        · exact .inl h'
        · exact .inr (.inr h')
      · rintro (h' | h' | h')
        · exact .inl h'
        · exact .inl (h' ▸ h)
        · exact .inr h'
    · rw [List.mem_append, List.mem_singleton]
      constructor
      · rintro ((h' | h') | h')
        · exact .inl h'
        · exact .inr (.inl h')
        · exact .inr (.inr h')
      · rintro (h' | h' | h')
        · exact .inl (.inl h')
        · exact .inl (.inr h')
        · exact .inr h'
section
variable {P : Program} {w : World} {K : PySem.W.Frag} {mg : Str → Option Value} {base : Heap} {A : Ad}
def sp_check_second (A : Ad) : Sp := fun vs H Q E => ∃ (pa : Addr) (f : Nat) (z : Int) (s : State), vs = [.ref pa, .int (f : Int), .int z] ∧ PjAt A H pa s ∧ (∀ c, secondCode s.project f z = some c → Fails A H c E) ∧ (secondCode s.project f z = none → Q .non H)
theorem ok_check_second (T : Txt K mg A) (C_need : Cal P w K mg base (L2.CX P w) 3 "need" ["is_right", "code"] (sp_need A)) {f : Addr} {fd : FuncData} (F : Fun K "check_second" "check_second" s_check_second f fd) : FnOk P w K mg base (L2.CX P w) 4 f fd ["project", "first", "second"] (sp_check_second A) := by
  refine F.okX sc_check_second (fun vs H Q E h => by obtain ⟨pa, f, z, s, rfl, _⟩ := h; rfl) (fun cdv A' outer s H vs Q E hr h => ?_)
  have hu := hu_of hr
  refine ⟨_, (pss_cons (ps_expr (pe_cal C_need (hr.mono (by decide)) (passes_call (takes_of rfl rfl rfl rfl) (fun _ _ _ _ h => h)) (pa_cons (pe_chain op_le op_le pe_int (pv 2) (pe_gl T.c_MOST_NUMBER)) (pa_cons (pe_un un_neg pe_int) pa_nil))))
(pss_cons (ps_expr (pe_cal C_need (hr.mono (by decide)) (passes_call (takes_of rfl rfl rfl rfl) (fun _ _ _ _ h => h)) (pa_cons (pe_cmp (pc_din hu (pv 2) (pe_fld (pv 0) rfl)) (by rfl)) (pa_cons (pe_un un_neg pe_int) pa_nil))))
(pss_one (ps_expr (pe_cal C_need (hr.mono (by decide)) (passes_call (takes_of rfl rfl rfl rfl) (fun _ _ _ _ h => h)) (pa_cons (pe_cmpR op_ne (pv 1) (pv 2) (nomark _)) (pa_cons (pe_un un_neg pe_int) pa_nil))))))), ?_⟩
  obtain ⟨pa, f, z, s, rfl, ⟨ok, dx, df, kd, bl, pj⟩, kf, k⟩ := h
  have n1 : ¬ (0 ≤ z ∧ z ≤ 9) → Fails A H (-1) E := fun hn => kf (-1) (if_pos (by rw [← Bool.not_eq_true, num_iff]; exact hn))
  refine ⟨_, rfl, _, _, rfl, rfl, _, rfl, ?_⟩
  refine ite2 (fun c1 => ?_) (fun c1 => ⟨_, rfl, false, -1, rfl, (fun z => by cases z), fun _ => n1 fun h => c1 (decide_eq_true h.1)⟩)
  have h1 : 0 ≤ z := of_decide_eq_true c1
  refine ⟨_, _, rfl, rfl, _, rfl, _, _, rfl, ?_, fun hn => n1 fun h => of_decide_eq_false hn h.2⟩
  intro y1
  have h2 : z ≤ 9 := of_decide_eq_true y1
  have nz : Vbjbaj.isNumber z = true := num_iff.mpr ⟨h1, h2⟩
  obtain ⟨g, rfl⟩ := Int.eq_ofNat_of_zero_le h1
  have fa := pj.fu.at_
  obtain ⟨o, go, ho⟩ := fa.has g
  refine ⟨_, rfl, _, rfl, pa, A.Project, dx, _, _, rfl, pj.ob, T.clP, T.nP_files, projF_files _ _ _ _, df, o, rfl, go, _, rfl, _, _, rfl, ?_, ?_⟩
  case refine_2 =>
    intro hn
    rw [ho] at hn
    refine kf (-3) ?_
    unfold secondCode
    rw [if_neg (by rw [nz]; decide), Int.toNat_natCast, if_pos hn]
  intro y2
  rw [ho] at y2
  refine ⟨_, rfl, _, rfl, rfl, _, rfl, _, _, rfl, ?_, ?_⟩
  · intro y3
    refine k ?_
    unfold secondCode
    rw [if_neg (by rw [nz]; decide), Int.toNat_natCast, if_neg (by rw [y2]; decide), if_neg]
    intro e
    subst e
    simp at y3
  · intro hn
    refine kf (-4) ?_
    unfold secondCode
    rw [if_neg (by rw [nz]; decide), Int.toNat_natCast, if_neg (by rw [y2]; decide), if_pos]
    have : V.int (f : Int) = V.int (g : Int) := by simpa using hn
    have : (f : Int) = (g : Int) := by simpa using this
    omega
def sp_cut_told (A : Ad) : Sp := fun vs H Q E => ∃ (pa : Addr) (f : Nat) (z : Int) (s : State), vs = [.ref pa, .int (f : Int), .int z] ∧ PjAt A H pa s ∧ Vbjbaj.doesExist s.project f = true ∧ (∀ c, secondCode s.project f z = some c → Fails A H c E) ∧
  (secondCode s.project f z = none → ∀ y, Vbjbaj.cutOf s.project f z.toNat = some y → ∀ H' r, Same H H' → H' r = some (.lst (rV (Vbjbaj.counted ((List.range 10).filter y.1.testBit) ++ Vbjbaj.shownPairs y.2))) → Q (.ref r) H')
theorem second_none {p : Project} {f : Nat} {z : Int} (h : secondCode p f z = none) : (0 ≤ z ∧ z ≤ 9) ∧ Vbjbaj.doesExist p z.toNat = true ∧ f ≠ z.toNat := by
  unfold secondCode at h
  split at h
  · cases h
  · rename_i c1
    split at h
    · cases h
    · rename_i c2
      split at h
      · cases h
      · rename_i c3
        exact ⟨num_iff.mp (by simpa using c1), by simpa using c2, c3⟩
theorem leaving_len {t : Nat} {p : Project} (w : PWf t p) (m : Nat) : (Vbjbaj.leaving p m).length ≤ 100 := by
  have key : ∀ l : List Nat, (l.flatMap fun f => if m.testBit f = false then [] else ((Vbjbaj.importsOf p f).filter fun g => Vbjbaj.doesExist p g && !m.testBit g).map fun g => (f, g)).length ≤ 10 * l.length := by
    intro l
    induction l with
    | nil => simp
    | cons a l ih =>
      rw [List.flatMap_cons, List.length_append, List.length_cons]
      have : (if m.testBit a = false then [] else ((Vbjbaj.importsOf p a).filter fun g => Vbjbaj.doesExist p g && !m.testBit g).map fun g => (a, g)).length ≤ 10 := by
        split
        · simp
        · rw [List.length_map]
          exact Nat.le_trans (List.length_filter_le _ _) (w.graph.size a)
      omega
  have := key (List.range 10)
  rw [List.length_range] at this
  exact this
theorem ok_cut_told (T : Txt K mg A) (C_check_second : Cal P w K mg base (L2.CX P w) 4 "check_second" ["project", "first", "second"] (sp_check_second A)) (C_cut : Cal P w K mg base CX0 2 "cut" ["files", "first", "last"] (sp_cut A)) (C_listed : Cal P w K mg base CX0 1 "listed" ["some"] (sp_listed K)) {f : Addr} {fd : FuncData} (F : Fun K "cut_told" "cut_told" s_cut_told f fd) : FnOk P w K mg base (L2.CX P w) 5 f fd ["project", "first", "second"] (sp_cut_told A) := by
  refine F.okX sc_cut_told (fun vs H Q E h => by obtain ⟨pa, f, z, s, rfl, _⟩ := h; rfl) (fun cdv A' outer s H vs Q E hr h => ?_)
  refine ⟨_, (pss_cons (ps_expr (pe_cal C_check_second (hr.mono (by decide)) (passes_call (takes_of rfl rfl rfl rfl) (fun _ _ _ _ h => h)) (pa_cons (pv 0) (pa_cons (pv 1) (pa_cons (pv 2) pa_nil)))))
(PSs.nox (pss_cons (ps_asg (pe_cal C_cut (hr.mono (by decide)) pass0 (pa_cons (pe_fld (pv 0) rfl) (pa_cons (pv 1) (pa_cons (pv 2) pa_nil)))) (pg_tup rfl (pgs_cons (pg_name (i := 3) sc_cut_told.nd rfl (Or.inl rfl)) (pgs_cons (pg_name (i := 4) sc_cut_told.nd rfl (Or.inl rfl)) pgs_nil))))
(pss_cons (ps_set (i := 5) sc_cut_told.nd rfl (Or.inl rfl) (pe_op op_cat (pe_cal C_listed (hr.mono (by decide)) pass0 (pa_cons (pv 3) pa_nil)) (pe_lst (pa_cons (pe_callB call_len_seq (by rfl) T.b_len (by decide +kernel) (pa_cons (pv 4) pa_nil)) pa_nil))))
(pss_cons (ps_for PassesOwn.never rfl (pi_list (pv 4)) (pg_name (i := 6) sc_cut_told.nd rfl (Or.inl rfl)) (pss_one (ps_expr (pe_bm PySem.F.plainAttrs_list PySem.F.slot_list_extend PySem.F.type_list_extend mt_extend (pv 5) (pa_cons (pe_callTy call_list_of (by rfl) T.b_list (by decide +kernel) (pa_cons (pv 6) pa_nil)) pa_nil)))))
(pss_one (ps_ret (pv 5)))))))), ?_⟩
  obtain ⟨pa, f, z, s, rfl, pj0, hf, kf, k⟩ := h
  refine ⟨_, rfl, _, rfl, _, rfl, pa, f, z, s, rfl, pj0, kf, fun sn => ?_⟩
  obtain ⟨ok, dx, df, kd, bl, pj⟩ := pj0
  obtain ⟨⟨z1, z2⟩, z3, z4⟩ := second_none sn
  have k := k sn
  obtain ⟨g, rfl⟩ := Int.eq_ofNat_of_zero_le z1
  rw [Int.toNat_natCast] at k z3 z4
  refine ⟨_, rfl, pa, A.Project, dx, _, _, rfl, pj.ob, T.clP, T.nP_files, projF_files _ _ _ _, _, rfl, _, rfl, df, f, g, s.tokens, s.project, rfl, ok.pw, pj.fu.at_, hf, by omega, z4, fun H1 r r1 r2 us m s1 hr e1 e2 hus ec => ?_⟩
  have k := k _ ec
  have lv := leaving_len ok.pw m
  have lus := Paired.len hus
  have ls : ((List.range 10).filter m.testBit).length ≤ 10 := Nat.le_trans (List.length_filter_le _ _) (by simp)
  refine ⟨r, _, rfl, SqT.of hr, rfl, _, _, rfl, _, _, rfl, rfl, ?_⟩
  refine ⟨_, rfl, r1, _, rfl, .inl (SqL.of e1), by omega, fun H2 r3 s2 hr0 e3 => ?_⟩
  refine ⟨_, rfl, r2, _, rfl, .inl (SqL.of (s2 _ _ e2)), by show 1 ≤ sizeLine; decide, fun q hq => ?_⟩
  have s3 : Same H2 (upd H2 q (.lst [.int (us.length : Nat)])) := Same.new hq
  refine ⟨r3, q, _, _, rfl, rfl, s3 _ _ e3, upd_same, by rw [rV_len, counted_len]; exact Nat.le_of_lt (lt_size (by simp; omega)), fun fl hfl => ?_⟩
  have s4 := s3.trans (Same.new (o := .lst (rV (Vbjbaj.counted ((List.range 10).filter m.testBit)) ++ [.int (us.length : Nat)])) hfl)
  have hfl2 : H2 fl = none := s3.free hfl
  have ef : upd (upd H2 q (.lst [.int (us.length : Nat)])) fl (.lst (rV (Vbjbaj.counted ((List.range 10).filter m.testBit)) ++ [.int (us.length : Nat)])) fl = some (.lst (rV (Vbjbaj.counted ((List.range 10).filter m.testBit)) ++ [.int (us.length : Nat)])) := upd_same
  generalize upd (upd H2 q (.lst [.int (us.length : Nat)])) fl (.lst (rV (Vbjbaj.counted ((List.range 10).filter m.testBit)) ++ [.int (us.length : Nat)])) = H4 at s4 ef
  have e24 : H4 r2 = some (.lst us) := s4 _ _ (s2 _ _ e2)
  refine ⟨_, rfl, r2, rfl, ⟨_, SqL.of e24⟩, for_list (K := K) (a := r2) (xs := us) (fun i σ H' => ∃ x6 : Option V, σ = [some (.ref pa), some (.int (f : Int)), some (.int (g : Int)), some (.ref r1), some (.ref r2), some (.ref fl), x6] ∧ Same H2 H' ∧ H' fl = some (.lst (rV (Vbjbaj.counted ((List.range 10).filter m.testBit)) ++ (V.int (us.length : Nat) :: rV (((Vbjbaj.leaving s.project m).take i).flatMap fun y => Vbjbaj.ints [y.1, y.2]))))) ⟨none, rfl, s4, ef⟩ (fun i σ H' _ ⟨_, _, q, _⟩ => SqL.of (q _ _ (s2 _ _ e2))) ?_ ?_⟩
  · rintro i y σ H5 hy ⟨x6, rfl, s5, e5⟩
    obtain ⟨pr, hpr, b, rfl, hb⟩ := paired_at hus hy
    refine ⟨_, rfl, .inl ⟨rfl, _, SqL.of e5⟩, _, rfl, b, _, rfl, .inr (SqT.of (s5 _ _ (s2 _ _ hb))), fun q2 hq2 => ?_⟩
    have nq : fl ≠ q2 := fun z => by rw [← z, e5] at hq2; cases hq2
    refine ⟨fl, q2, _, _, rfl, rfl, by rw [upd_ne nq]; exact e5, upd_same, ?_, _, rfl, Same.put (Same.neu s5 hq2) hfl2, ?_⟩
    · rw [List.length_append, List.length_cons, rV_len, rV_len, counted_len, shownP_len, List.length_take]
      show _ + 2 ≤ sizeLine
      exact Nat.le_of_lt (lt_size (by omega))
    · rw [upd_same, take_succ' hpr, List.flatMap_append]
      simp [prV, rV, Vbjbaj.ints]
  · rintro σ H5 ⟨x6, rfl, s5, e5⟩
    rw [lus, List.take_length] at e5
    refine ⟨_, rfl, k H5 fl ((s1.trans s2).trans s5) ?_⟩
    rw [e5, ← rV_app]
    rfl
end
end Sf
/-! W24: cuts checked, reasons. -/
namespace Sf
open PySem PySem.Spec PyProof.Rows L2
open Vbjbaj (Statement File Project State Readings)
/-- an item ((a, b), True) -/
def PIt (H : Hp) (v : V) (e : Nat × Nat) : Prop := ∃ b q, v = .ref b ∧ H b = some (.tup [.ref q, .bl true]) ∧ H q = some (.tup [.int (e.1 : Int), .int (e.2 : Int)])
theorem PIt.same (H H' : Hp) (v : V) (a : Nat × Nat) (e : Same H H') (h : PIt H v a) : PIt H' v a := by
  obtain ⟨b, q, h1, h2, h3⟩ := h
  exact ⟨b, q, h1, e _ _ h2, e _ _ h3⟩
theorem PIt.sx {D : Addr} (H H' : Hp) (v : V) (a : Nat × Nat) (l : List V) (hD : H D = some (.lst l)) (x : SameX D H H') (h : PIt H v a) : PIt H' v a := by
  obtain ⟨b, q, h1, h2, h3⟩ := h
  exact ⟨b, q, h1, x _ _ (fun z => by rw [z, hD] at h2; cases h2) h2, x _ _ (fun z => by rw [z, hD] at h3; cases h3) h3⟩
theorem pits {K : PySem.W.Frag} {H : Hp} : ∀ {acc : List V} {l : List (Nat × Nat)}, Paired (PIt H) acc l → ∃ ps : List Addr, acc = ps.map V.ref ∧ Paired (fun p (kv : List Key × V) => ∃ b, SqT K H p [.ref b, kv.2] ∧ H b = some (.tup (kv.1.map kV))) ps (l.map fun e => (prKey e, V.bl true))
  | _, _, .nil => ⟨[], rfl, .nil⟩
  | _, _, .cons ⟨b, q, h1, h2, h3⟩ t => by
    obtain ⟨ps, e, r⟩ := pits (K := K) t
    exact ⟨b :: ps, by rw [h1, e]; rfl, .cons ⟨q, SqT.of h2, h3⟩ r⟩
theorem LcR.pushB {α : Type} {R : Hp → V → α → Prop} {H1 H H4 : Hp} {D : Addr} {ys : List α} {y : V} {a : α} (hs : ∀ H H' v a, Same H H' → R H v a → R H' v a) (hx : ∀ H H' v a l, H D = some (.lst l) → SameX D H H' → R H v a → R H' v a) (hD : H1 D = none) (p : LcR R H1 D ys H) (s : Same H H4) (hy : R H4 y a) (hl : ys.length ≤ 10000000) :
    ∃ acc, H4 D = some (.lst acc) ∧ acc.length < sizeLine ∧ LcR R H1 D (ys ++ [a]) (upd H4 D (.lst (acc ++ [y]))) := by
  obtain ⟨h1, acc, h2, h3⟩ := p.more hs s
  have sx : SameX D H4 (upd H4 D (.lst (acc ++ [y]))) := (SameX.refl D H4).put
  exact ⟨acc, h2, big_lt (by rw [Paired.len h3]; omega), Same.put h1 hD, _, upd_same, Paired.snoc (hx _ _ _ _ _ h2 sx hy) (Paired.mapP h3 fun _ _ q => hx _ _ _ _ _ h2 sx q)⟩
section
variable {P : Program} {w : World} {K : PySem.W.Frag} {mg : Str → Option Value} {base : Heap} {A : Ad}
def rowOk (l : List Int) : Bool := l.length % 2 == 0 && l.all Vbjbaj.isNumber
def sp_check_cut (A : Ad) : Sp := fun vs H Q E => ∃ (pa ra : Addr) (f : Nat) (z : Int) (l : List Int) (s : State), vs = [.ref pa, .int (f : Int), .int z, .ref ra] ∧ PjAt A H pa s ∧ H ra = some (.lst (rV l)) ∧ l.length ≤ 10000000 ∧ Vbjbaj.doesExist s.project f = true ∧ (∀ c, secondCode s.project f z = some c → Fails A H c E) ∧
  (secondCode s.project f z = none → (rowOk l = false → Fails A H (-1) E) ∧ (rowOk l = true → ∀ H' r, Same H H' → H' r = some (.lst (rV (checkOut (Vbjbaj.path (Vbjbaj.withoutImports s.project (Vbjbaj.pairsIn (Vbjbaj.nats l))) f z.toNat)))) → Q (.ref r) H'))
theorem ok_check_cut (T : Txt K mg A) (C_need : Cal P w K mg base (L2.CX P w) 3 "need" ["is_right", "code"] (sp_need A)) (C_check_second : Cal P w K mg base (L2.CX P w) 4 "check_second" ["project", "first", "second"] (sp_check_second A)) (C_paths_from : Cal P w K mg base CX0 2 "paths_from" ["files", "number", "left"] (sp_paths_from K A)) (C_listed : Cal P w K mg base CX0 1 "listed" ["some"] (sp_listed K)) {f : Addr} {fd : FuncData} (F : Fun K "check_cut" "check_cut" s_check_cut f fd) : FnOk P w K mg base (L2.CX P w) 5 f fd ["project", "first", "second", "row"] (sp_check_cut A) := by
  refine F.okX sc_check_cut (fun vs H Q E h => by obtain ⟨pa, ra, f, z, l, s, rfl, _⟩ := h; rfl) (fun cdv A' outer s H vs Q E hr h => ?_)
  have hu := hu_of hr
  have hu64 := hu64_of hr
  refine ⟨_, (pss_cons (ps_expr (pe_cal C_check_second (hr.mono (by decide)) (passes_call (takes_of rfl rfl rfl rfl) (fun _ _ _ _ h => h)) (pa_cons (pv 0) (pa_cons (pv 1) (pa_cons (pv 2) pa_nil)))))
(pss_cons (ps_expr (pe_cal C_need (hr.mono (by decide)) (passes_call (takes_of rfl rfl rfl rfl) (fun _ _ _ _ h => h)) (pa_cons (pe_and (pe_cmpR op_eq (pe_op op_mod (pe_callB call_len_seq (by rfl) T.b_len (by decide +kernel) (pa_cons (pv 3) pa_nil)) pe_int) pe_int (nomark _)) (pe_one (pe_callB (cr_all rfl) (by rfl) T.b_all (by decide +kernel) (pa_cons (pe_lc (own := [("number", 7)]) (g := (gName 7)) (tt := tYes) (te := (tChain rLeI rLeI (tC (.int 0)) (tVar 7) (tC (.int 9)))) (by rfl) sc_check_cut.nd (pi_list (pv 3)) (blkOk_by (own := [("number", 7)]) (N := N_check_cut) (sc := defScope s_check_cut) (by decide +kernel)) (fun _ _ _ _ _ => (pg_name (i := 7) sc_check_cut.nd rfl (Or.inl rfl))) (fun _ _ _ _ _ => pts_nil) (fun _ _ _ _ _ => (pe_chain op_le op_le pe_int (pv 7) (pe_gl T.c_MOST_NUMBER)))) pa_nil)))) (pa_cons (pe_un un_neg pe_int) pa_nil))))
(pss_cons (ps_set (i := 4) sc_check_cut.nd rfl (Or.inl rfl) (pe_callTy (call_dictT rfl hu64) (by rfl) T.b_dict (by decide +kernel) (pa_cons (pe_lc (own := [("at", 6)]) (g := (gName 6)) (tt := tYes) (te := (tTup (tCons (tTup (tCons (tOp (rIxL K) (tVar 3) (tVar 6)) (tCons (tOp (rIxL K) (tVar 3) (tOp rAddI (tVar 6) (tC (.int 1)))) tNil))) (tCons (tC (.bl true)) tNil)))) (by rfl) sc_check_cut.nd (pi_range3 rfl T.b_range (pa_cons pe_int (pa_cons (pe_callB call_len_seq (by rfl) T.b_len (by decide +kernel) (pa_cons (pv 3) pa_nil)) (pa_cons pe_int pa_nil)))) (blkOk_by (own := [("at", 6)]) (N := N_check_cut) (sc := defScope s_check_cut) (by decide +kernel)) (fun _ _ _ _ _ => (pg_name (i := 6) sc_check_cut.nd rfl (Or.inl rfl))) (fun _ _ _ _ _ => pts_nil) (fun _ _ _ _ _ => (pe_tup (pa_cons (pe_tup (pa_cons (pe_ix ix_list (pv 3) (pv 6) (fun _ _ => rfl)) (pa_cons (pe_ix ix_list (pv 3) (pe_op op_add (pv 6) pe_int) (fun _ _ => rfl)) pa_nil))) (pa_cons pe_bl pa_nil))))) pa_nil)))
(pss_cons (ps_set (i := 5) sc_check_cut.nd rfl (Or.inl rfl) (pe_dget2 hu (pe_cal C_paths_from (hr.mono (by decide)) pass0 (pa_cons (pe_fld (pv 0) rfl) (pa_cons (pv 1) (pa_cons (pv 4) pa_nil)))) (pv 2) pe_non ⟨rfl, rfl, rfl, rfl⟩))
(pss_one (ps_ret (pe_ifExp (pt_cmp (pc_isN (pv 5)) (by rfl)) (pe_lst (pa_cons pe_int pa_nil)) (pe_op op_cat (pe_lst (pa_cons pe_int pa_nil)) (pe_cal C_listed (hr.mono (by decide)) pass0 (pa_cons (pv 5) pa_nil)))))))))), ?_⟩
  obtain ⟨pa, ra, f, z, l, s, rfl, pj0, hra, ll, hf, kf, k⟩ := h
  refine ⟨_, rfl, _, rfl, _, rfl, pa, f, z, s, rfl, pj0, kf, fun sn => ?_⟩
  obtain ⟨ok, dx, df, kd, bl, pj⟩ := pj0
  obtain ⟨⟨z1, z2⟩, z3, z4⟩ := second_none sn
  obtain ⟨kr, k⟩ := k sn
  obtain ⟨g, rfl⟩ := Int.eq_ofNat_of_zero_le z1
  rw [Int.toNat_natCast] at k
  have pw := ok.pw
  have fld : ∀ {H1 : Hp}, Same H H1 → H1 pa = some (.ins A.Project dx (projF s.tokens df kd bl)) := fun e => e _ _ pj.ob
  -- an even length
  refine ⟨_, rfl, ra, _, rfl, .inl (SqL.of hra), _, _, rfl, rfl, (by show (0 : Int) < 2; decide), rfl, _, rfl, ?_⟩
  rw [dec_int, List.length_map]
  refine ite2 (fun c1 => ?_) (fun c1 => ?_)
  case refine_2 =>
    refine ⟨_, rfl, false, -1, rfl, (fun z => by cases z), fun _ => kr ?_⟩
    unfold rowOk
    have : (l.length % 2 == 0) = false := by
      have : ¬ l.length % 2 = 0 := fun e => c1 (by simp; omega)
      simpa using this
    rw [this]
    rfl
  have m2 : l.length % 2 = 0 := by simp at c1; omega
  -- numbers all
  refine ⟨_, rfl, ra, rfl, ⟨_, SqL.of hra⟩, fun D hD => lc_list (K := K) (a := ra) (xs := rV l) (LcP H D (Fil l (fun _ => true) fun z => V.bl (Vbjbaj.isNumber z))) (LcP.start hD rfl) (fun i H' _ pv => SqL.of (pv.1 _ _ hra)) (fun i y H1 hy pv => ?_) (fun H1 pv => ?_)⟩
  · obtain ⟨z, hz, rfl⟩ := rV_at hy
    refine ⟨rfl, _, rfl, _, _, rfl, rfl, _, rfl, ?_⟩
    have go : ∀ q : Bool, q = Vbjbaj.isNumber z → ∃ acc, H1 D = some (.lst acc) ∧ acc.length < sizeLine ∧ LcP H D (Fil l (fun _ => true) fun z => V.bl (Vbjbaj.isNumber z)) (i + 1) (upd H1 D (.lst (acc ++ [.bl q]))) := fun q e => by
      subst e
      exact pv.push hD (Same.refl _) (Fil.yes hz rfl) (Fil.big ll)
    refine ite2 (fun c1 => ?_) (fun c1 => go false (by
      symm
      rw [← Bool.not_eq_true, num_iff]
      exact fun h => c1 (decide_eq_true h.1)))
    have h1 : 0 ≤ z := of_decide_eq_true c1
    refine ⟨_, _, rfl, rfl, go _ ?_⟩
    rw [Bool.eq_iff_iff, num_iff, decide_eq_true_eq]
    exact ⟨fun h => ⟨h1, h⟩, fun h => h.2⟩
  obtain ⟨s1, e1⟩ := pv
  rw [List.length_map, Fil.all, filter_true] at e1
  refine ⟨D, l.map Vbjbaj.isNumber, rfl, SqL.of (by rw [e1, List.map_map]; rfl), _, rfl, _, _, rfl, ?_, ?_⟩
  case refine_2 =>
    intro hn
    refine (kr ?_).after s1
    unfold rowOk
    rw [List.all_map] at hn
    have hn' : l.all Vbjbaj.isNumber = false := hn
    rw [hn', Bool.and_false]
  intro y1
  have g1 : l.all Vbjbaj.isNumber = true := by rw [List.all_map] at y1; exact y1
  have nn : ∀ z ∈ l, 0 ≤ z := fun z hz => (num_iff.mp (List.all_eq_true.mp g1 z hz)).1
  have k := k (by unfold rowOk; rw [g1, m2]; rfl)
  -- the pairs
  have hra1 := s1 _ _ hra
  have lp := pairs_len l
  generalize eL : Vbjbaj.pairsIn (Vbjbaj.nats l) = L at k lp
  refine ⟨_, rfl, ra, _, rfl, .inl (SqL.of hra1), _, _, _, l.length / 2, rfl, (by rw [List.length_map]; exact rgc2 (by omega) (by omega)), fun D3 hD3 => ?_⟩
  refine lc_it (walk_rangeC (lo := 0) (c := 2) (n := l.length / 2)) (fun i H' => LcR PIt H1 D3 (L.take i) H') (LcR.start hD3) (fun i H' _ _ => trivial) ?_ ?_
  · rintro i y H3 H3' hi pv ⟨rfl, rfl⟩
    change gName 6 (.int (0 + ((i : Nat) : Int) * 2)) _ _ _
    have hb3 := pv.1 _ _ hra1
    have e0 : (0 : Int) + ((i : Nat) : Int) * 2 = ((2 * i : Nat) : Int) := by omega
    rw [e0]
    have gt : ∀ j, j < 2 → ∃ z, l[2 * i + j]? = some z ∧ (rV l)[2 * i + j]? = some (V.int z) := fun j hj => by
      have hlt : 2 * i + j < l.length := by omega
      exact ⟨l[2 * i + j], List.getElem?_eq_getElem hlt, by rw [List.getElem?_map, List.getElem?_eq_getElem hlt]; rfl⟩
    obtain ⟨x0, a0, b0⟩ := gt 0 (by decide)
    obtain ⟨x1, a1, b1⟩ := gt 1 (by decide)
    have hx := pairs_at l i x0 x1 a0 a1
    rw [eL] at hx
    have p0 := nn x0 (List.mem_of_getElem? a0)
    have p1 := nn x1 (List.mem_of_getElem? a1)
    refine ⟨rfl, _, rfl, _, rfl, ra, _, _, _, rfl, rfl, SqL.of hb3, atI_nat b0, _, rfl, _, rfl, _, _, rfl, rfl, ra, _, _, _, rfl, rfl, SqL.of hb3, (by rw [show ((2 * i : Nat) : Int) + 1 = ((2 * i + 1 : Nat) : Int) by omega]; exact atI_nat b1), by show 2 ≤ sizeLine; decide, fun q hq => ?_⟩
    have t1 : Same H3' (upd H3' q (.tup [.int x0, .int x1])) := Same.new hq
    refine ⟨by show 2 ≤ sizeLine; decide, fun q2 hq2 => ?_⟩
    have t2 := t1.trans (Same.new (o := .tup [V.ref q, V.bl true]) hq2)
    have := pv.pushB PIt.same PIt.sx hD3 t2 (y := .ref q2) (a := (x0.toNat, x1.toNat)) ⟨q2, q, rfl, upd_same, by rw [Int.toNat_of_nonneg p0, Int.toNat_of_nonneg p1]; exact (Same.new hq2) _ _ upd_same⟩ (by rw [List.length_take]; omega)
    rw [take_succ' hx]
    exact this
  rintro H3 ⟨s3, acc, hacc, racc⟩
  rw [← lp, List.take_length] at racc
  obtain ⟨ps, rfl, rps⟩ := pits (K := K) racc
  have s13 := s1.trans s3
  refine ⟨D3, ps, _, rfl, SqL.of hacc, rps, fun ld hld => ?_⟩
  have s4 := s13.trans (Same.new (o := .dT (mergeT [] (L.map fun e => (prKey e, V.bl true)))) hld)
  have e4 : upd H3 ld (.dT (mergeT [] (L.map fun e => (prKey e, V.bl true)))) ld = some (.dT (mergeT [] (L.map fun e => (prKey e, V.bl true)))) := upd_same
  generalize upd H3 ld (.dT (mergeT [] (L.map fun e => (prKey e, V.bl true)))) = H4 at s4 e4
  have left : LeftAt K H4 (.ref ld) L := ⟨ld, rfl, .inr ⟨_, .inl e4, fun a b => by
    rw [List.contains_eq_mem]
    have m : prKey (a, b) ∈ (mergeT [] (L.map fun e => (prKey e, V.bl true))).map (·.1) ↔ (a, b) ∈ L := by
      rw [mergeT_mem, List.map_map]
      simp only [List.map_nil, List.not_mem_nil, false_or]
      exact prKey_mem
    by_cases c : (a, b) ∈ L
    · obtain ⟨v, hv⟩ := valV_some_of' (m.mpr c)
      have hv' : valV (mergeT [] (L.map fun e => (prKey e, V.bl true))) [Sum.inl (a : Int), Sum.inl (b : Int)] = some v := hv
      rw [hv', decide_eq_true c]; rfl
    · have hv : valV (mergeT [] (L.map fun e => (prKey e, V.bl true))) [Sum.inl (a : Int), Sum.inl (b : Int)] = none := by
        cases e : valV (mergeT [] (L.map fun e => (prKey e, V.bl true))) [Sum.inl (a : Int), Sum.inl (b : Int)] with
        | none => rfl
        | some v => exact absurd (m.mp (valV_in e)) c
      rw [hv, decide_eq_false c]; rfl⟩⟩
  -- the paths
  have hf10 := pw.lt hf
  have G : Graph (Vbjbaj.importsOf (Vbjbaj.withoutImports s.project L)) := graph_without pw.graph L
  refine ⟨_, rfl, pa, A.Project, dx, _, _, rfl, fld s4, T.clP, T.nP_files, projF_files _ _ _ _, _, rfl, _, rfl, ?_⟩
  refine ⟨df, f, s.tokens, .ref ld, s.project, L, rfl, hf10, pw, pj.fu.at_.same s4, left, fun H5 r kvs s5 hr0 hr1 pk => ?_⟩
  have s45 := s4.trans s5
  refine ⟨r, rfl, .inl ⟨_, .inl hr1⟩, _, rfl, _, DGet.k (k := .inl (g : Int)) hr1, ?_⟩
  by_cases c : g ∈ Vbjbaj.reachedFrom (Vbjbaj.withoutImports s.project L) f
  · obtain ⟨a, lq, v1, v2, v3⟩ := pk.at_ g c
    rw [v1]
    rw [v3] at k
    have lll := path_lenG G hf10 v3
    refine ⟨_, rfl, _, rfl, ?_⟩
    refine iteF ⟨by show 1 ≤ sizeLine; decide, fun q1 hq1 => ?_⟩
    have s6 : Same H5 (upd H5 q1 (.lst [.int 0])) := Same.new hq1
    refine ⟨_, rfl, a, lq, rfl, .inl (SqL.of (s6 _ _ v2)), by omega, fun H6 r2 s7 _ e7 => ?_⟩
    refine ⟨q1, r2, _, _, rfl, rfl, s7 _ _ upd_same, e7, ?_, fun r4 hr4 => k _ r4 (((s45.trans s6).trans s7).trans (Same.new hr4)) upd_same⟩
    rw [rV_len, counted_len]
    exact Nat.le_of_lt (lt_size (by simp; omega))
  · rw [pk.none_ c]
    rw [path_noneG G hf10 c] at k
    refine ⟨_, rfl, _, rfl, ?_⟩
    exact iteT ⟨by show 1 ≤ sizeLine; decide, fun q1 hq1 => k _ q1 (s45.trans (Same.new hq1)) upd_same⟩
def reasonsOut (s : State) (f : Nat) (x : File) : List Int := match s.readings.getD f none with
  | none => [1]
  | some k => if k = ⟨x.text, Vbjbaj.relevantOf s.project f⟩ then [0] else 2 :: (if k.text = x.text then 0 else 1) :: (Vbjbaj.shownStatements (Vbjbaj.missingStatements (Vbjbaj.relevantOf s.project f) k.statements) ++ Vbjbaj.shownStatements (Vbjbaj.missingStatements k.statements (Vbjbaj.relevantOf s.project f)))
def sp_reasons (A : Ad) : Sp := fun vs H Q _ => ∃ (pa : Addr) (f : Nat) (s : State) (x : File), vs = [.ref pa, .int (f : Int)] ∧ Vbjbaj.fileAt s.project f = some x ∧ PjAt A H pa s ∧ (∀ k, s.readings.getD f none = some k → k.statements.length ≤ 120) ∧ ∀ H' r, Same H H' → H' r = some (.lst (rV (reasonsOut s f x))) → Q (.ref r) H'
theorem ok_reasons (T : Txt K mg A) (C_key : Cal P w K mg base CX0 6 "key" ["files", "number"] (sp_key A)) (C_flat : Cal P w K mg base CX0 1 "flat" ["statements"] (sp_flat K)) {f : Addr} {fd : FuncData} (F : Fun K "reasons" "reasons" s_reasons f fd) : FnOk P w K mg base CX0 7 f fd ["project", "number"] (sp_reasons A) := by
  refine F.ok sc_reasons (fun vs H Q E h => by obtain ⟨pa, f, s, x, rfl, _⟩ := h; rfl) (fun cdv A' outer s H vs Q E hr h => ?_)
  have hu := hu_of hr
  have hu64 := hu64_of hr
  have hu65 := hu65_of hr
  refine ⟨_, (pss_cons (ps_if (pt_cmp (pc_dnotin hu (pv 1) (pe_fld (pv 0) rfl)) (by rfl)) (pss_one (ps_ret (pe_lst (pa_cons pe_int pa_nil)))) pss_nil)
(pss_cons (ps_asg (pe_tup (pa_cons (pe_dget hu (pe_fld (pv 0) rfl) (pv 1) (fun _ _ => rfl)) (pa_cons (pe_cal C_key (hr.mono (by decide)) pass0 (pa_cons (pe_fld (pv 0) rfl) (pa_cons (pv 1) pa_nil))) pa_nil))) (pg_tup rfl (pgs_cons (pg_name (i := 2) sc_reasons.nd rfl (Or.inr rfl)) (pgs_cons (pg_name (i := 3) sc_reasons.nd rfl (Or.inr rfl)) pgs_nil))))
(pss_cons (ps_if (pt_cmpR (op_eqD hu64) (pv 2) (pv 3) (nomark _)) (pss_one (ps_ret (pe_lst (pa_cons pe_int pa_nil)))) pss_nil)
(pss_cons (ps_setLc (i := 4) (y := "gained") (own := [("one", 6)]) (g := (gName 6)) (tt := (tTest (tOp (rNotInDT K) (tVar 6) (tOp (rIxT K) (tVar 2) (tC (.int 1)))))) (te := (tVar 6)) (by rfl) sc_reasons.nd rfl rfl (sw_true rfl rfl rfl (by decide +kernel)) (pi_tup (pe_ix ix_tup (pv 3) pe_int (fun _ _ => rfl))) (blkOk_by (own := [("one", 6)]) (N := N_reasons) (sc := defScope s_reasons) (by decide +kernel)) (fun _ _ _ _ _ => (pg_name (i := 6) sc_reasons.nd rfl (Or.inl rfl))) (fun _ _ _ _ _ => pts_one (pt_cmpR (op_notInDT hu65) (pv 6) (pe_ix ix_tup (pv 2) pe_int (fun _ _ => rfl)) (by rfl))) (fun _ _ _ _ _ => (pv 6)))
(pss_cons (ps_setLc (i := 5) (y := "lost") (own := [("one", 6)]) (g := (gName 6)) (tt := (tTest (tOp (rNotInDT K) (tVar 6) (tOp (rIxT K) (tVar 3) (tC (.int 1)))))) (te := (tVar 6)) (by rfl) sc_reasons.nd rfl rfl (sw_true rfl rfl rfl (by decide +kernel)) (pi_tup (pe_ix ix_tup (pv 2) pe_int (fun _ _ => rfl))) (blkOk_by (own := [("one", 6)]) (N := N_reasons) (sc := defScope s_reasons) (by decide +kernel)) (fun _ _ _ _ _ => (pg_name (i := 6) sc_reasons.nd rfl (Or.inl rfl))) (fun _ _ _ _ _ => pts_one (pt_cmpR (op_notInDT hu65) (pv 6) (pe_ix ix_tup (pv 3) pe_int (fun _ _ => rfl)) (by rfl))) (fun _ _ _ _ _ => (pv 6)))
(pss_one (ps_ret (pe_op op_cat (pe_op op_cat (pe_lst (pa_cons pe_int (pa_cons (pe_ifExp (pt_cmpR (op_neD hu64) (pe_ix ix_tup (pv 2) pe_int (fun _ _ => rfl)) (pe_ix ix_tup (pv 3) pe_int (fun _ _ => rfl)) (nomark _)) pe_int pe_int) pa_nil))) (pe_cal C_flat (hr.mono (by decide)) pass0 (pa_cons (pv 4) pa_nil))) (pe_cal C_flat (hr.mono (by decide)) pass0 (pa_cons (pv 5) pa_nil)))))))))), ?_⟩
  obtain ⟨pa, f, s, x, rfl, hx, ⟨ok, dx, df, kd, bl, pj⟩, kst, k⟩ := h
  have pw := ok.pw
  have fld : ∀ {H1 : Hp}, Same H H1 → H1 pa = some (.ins A.Project dx (projF s.tokens df kd bl)) := fun e => e _ _ pj.ob
  have hf10 := pw.lt (doesExist_iff.mpr ⟨x, hx⟩)
  have hk := key_some hx
  unfold reasonsOut at k
  rcases pj.ke.get hf10 with ⟨q1, q2⟩ | ⟨v, kk, q1, q2, q3⟩
  · rw [q1] at k
    refine ⟨_, rfl, _, rfl, pa, A.Project, dx, _, _, rfl, pj.ob, T.clP, T.nP_kept, projF_kept _ _ _ _, kd, none, rfl, q2, _, rfl, ?_⟩
    exact iteT ⟨by show 1 ≤ sizeLine; decide, fun q1 hq1 => k _ q1 (Same.new hq1) upd_same⟩
  · rw [q2] at k
    have l1 := kst _ q2
    have l2 := relevant_len pw (f := f)
    refine ⟨_, rfl, _, rfl, pa, A.Project, dx, _, _, rfl, pj.ob, T.clP, T.nP_kept, projF_kept _ _ _ _, kd, some v, rfl, q1, _, rfl, ?_⟩
    refine iteF ?_
    refine ⟨_, rfl, pa, A.Project, dx, _, _, rfl, pj.ob, T.clP, T.nP_kept, projF_kept _ _ _ _, _, rfl, kd, v, rfl, q1, ?_⟩
    refine ⟨_, rfl, pa, A.Project, dx, _, _, rfl, pj.ob, T.clP, T.nP_files, projF_files _ _ _ _, _, rfl, df, f, s.tokens, s.project, _, rfl, hk, pw, pj.fu.at_, fun H1 r s1 kv1 => ?_⟩
    refine ⟨by show 2 ≤ sizeLine; decide, fun q hq => ?_⟩
    have s2 := s1.trans (Same.new (o := .tup [v, .ref r]) hq)
    refine ⟨q, _, rfl, SqT.of upd_same, rfl, _, _, rfl, _, _, rfl, rfl, ?_⟩
    have kv2 := kv1.same (Same.new (o := .tup [v, .ref r]) hq)
    have ov2 := q3.same s2
    generalize upd H1 q (.tup [v, .ref r]) = H2 at s2 kv2 ov2
    refine ⟨_, rfl, _, rfl, keyD _, keyD _, dp_key ov2, dp_key kv2, key_shaped _, key_shaped _, _, rfl, ?_⟩
    rw [eqv_key]
    refine ite2 (fun c => ?_) (fun c => ?_)
    · have c' : kk = ⟨x.text, Vbjbaj.relevantOf s.project f⟩ := of_decide_eq_true c
      rw [show (match some kk with | none => [1] | some k => if k = ⟨x.text, Vbjbaj.relevantOf s.project f⟩ then [0] else 2 :: (if k.text = x.text then 0 else 1) :: (Vbjbaj.shownStatements (Vbjbaj.missingStatements (Vbjbaj.relevantOf s.project f) k.statements) ++ Vbjbaj.shownStatements (Vbjbaj.missingStatements k.statements (Vbjbaj.relevantOf s.project f)))) = ([0] : List Int) from if_pos c'] at k
      exact ⟨by show 1 ≤ sizeLine; decide, fun q1 hq1 => k _ q1 (s2.trans (Same.new hq1)) upd_same⟩
    · have c' : ¬ kk = ⟨x.text, Vbjbaj.relevantOf s.project f⟩ := fun z => c (decide_eq_true z)
      simp only [if_neg c'] at k
      obtain ⟨a1, t1, g1, u1, rfl, f1, f2, f3, f4⟩ := id ov2
      obtain ⟨a2, t2, g2, u2, ea, h1, h2, h3, h4⟩ := id kv2
      cases ea
      have lu1 := Paired.len f4
      have lu2 := Paired.len h4
      -- gained
      refine ⟨_, rfl, r, _, 1, .ref g2, rfl, rfl, SqT.of h1, rfl, g2, rfl, ⟨_, SqT.of h3⟩, fun D hD => ?_⟩
      refine lc_tup (K := K) (a := g2) (xs := u2) (fun i H' => LcR StV H2 D (((Vbjbaj.relevantOf s.project f).take i).filter fun z => !kk.statements.contains z) H') (LcR.start hD) (fun i H' _ p => SqT.of (p.1 _ _ h3)) (fun i y H' hy pv => ?_) (fun H3 pv => ?_)
      · obtain ⟨st, hst, hv⟩ := stL_at (h4.same pv.1) hy
        have ev := take_succ' hst
        refine ⟨rfl, _, rfl, _, rfl, a1, _, 1, .ref g1, rfl, rfl, SqT.of (pv.1 _ _ f1), rfl, stD st, kk.statements.map stD, dp_st hv, dp_sts (SqT.of (pv.1 _ _ f3)) (f4.same pv.1), st_shaped _, sts_shaped _, _, rfl, ?_⟩
        rw [any_st]
        refine ite2 (fun c2 => ⟨_, rfl, ?_⟩) (fun c2 => ?_)
        · rw [ev, List.filter_append, List.filter_cons_of_pos (p := fun z => !kk.statements.contains z) c2]
          exact pv.push (fun _ _ _ _ e q => q.same e) (fun _ _ _ _ l hl x q => by obtain ⟨b, e1, e2⟩ := q; exact ⟨b, e1, x _ _ (fun z => by rw [z, hl] at e2; cases e2) e2⟩) hD (Same.refl _) hv (Nat.le_trans (List.length_filter_le _ _) (by rw [List.length_take]; have l2' : (Vbjbaj.relevantOf s.project f).length ≤ 120 := l2; show min i (Vbjbaj.relevantOf s.project f).length ≤ _; omega))
        · rw [ev, List.filter_append, List.filter_cons_of_neg (p := fun z => !kk.statements.contains z) c2, List.filter_nil, List.append_nil]
          exact pv
      obtain ⟨s3, acc, hacc, racc⟩ := pv
      rw [lu2, List.take_length] at racc
      have racc : Paired (StV H3) acc (Vbjbaj.missingStatements (Vbjbaj.relevantOf s.project f) kk.statements) := racc
      have s23 := s2.trans s3
      have F1 := s3 _ _ f1
      have F3 := s3 _ _ f3
      have H1' := s3 _ _ h1
      have H3' := s3 _ _ h3
      have F4 := f4.same s3
      have H4' := h4.same s3
      -- lost
      refine ⟨_, rfl, a1, _, 1, .ref g1, rfl, rfl, SqT.of F1, rfl, g1, rfl, ⟨_, SqT.of F3⟩, fun D2 hD2 => ?_⟩
      refine lc_tup (K := K) (a := g1) (xs := u1) (fun i H' => LcR StV H3 D2 ((kk.statements.take i).filter fun z => !(Vbjbaj.relevantOf s.project f).contains z) H') (LcR.start hD2) (fun i H' _ p => SqT.of (p.1 _ _ F3)) (fun i y H' hy pv => ?_) (fun H4 pv => ?_)
      · obtain ⟨st, hst, hv⟩ := stL_at (F4.same pv.1) hy
        have ev := take_succ' hst
        refine ⟨rfl, _, rfl, _, rfl, r, _, 1, .ref g2, rfl, rfl, SqT.of (pv.1 _ _ H1'), rfl, stD st, (Vbjbaj.relevantOf s.project f).map stD, dp_st hv, dp_sts (SqT.of (pv.1 _ _ H3')) (H4'.same pv.1), st_shaped _, sts_shaped _, _, rfl, ?_⟩
        rw [any_st]
        refine ite2 (fun c2 => ⟨_, rfl, ?_⟩) (fun c2 => ?_)
        · rw [ev, List.filter_append, List.filter_cons_of_pos (p := fun z => !(Vbjbaj.relevantOf s.project f).contains z) c2]
          exact pv.push (fun _ _ _ _ e q => q.same e) (fun _ _ _ _ l hl x q => by obtain ⟨b, e1, e2⟩ := q; exact ⟨b, e1, x _ _ (fun z => by rw [z, hl] at e2; cases e2) e2⟩) hD2 (Same.refl _) hv (by have := List.length_filter_le (fun z => !(Vbjbaj.relevantOf s.project f).contains z) (kk.statements.take i); rw [List.length_take] at this; omega)
        · rw [ev, List.filter_append, List.filter_cons_of_neg (p := fun z => !(Vbjbaj.relevantOf s.project f).contains z) c2, List.filter_nil, List.append_nil]
          exact pv
      obtain ⟨s4, acc2, hacc2, racc2⟩ := pv
      rw [lu1, List.take_length] at racc2
      have racc2 : Paired (StV H4) acc2 (Vbjbaj.missingStatements kk.statements (Vbjbaj.relevantOf s.project f)) := racc2
      have s34 := s3.trans s4
      have s24 := s2.trans s34
      have lg : (Vbjbaj.missingStatements (Vbjbaj.relevantOf s.project f) kk.statements).length ≤ 120 := Nat.le_trans (List.length_filter_le _ _) l2
      have lo : (Vbjbaj.missingStatements kk.statements (Vbjbaj.relevantOf s.project f)).length ≤ 120 := Nat.le_trans (List.length_filter_le _ _) l1
      refine ⟨_, rfl, a1, _, 0, .ref t1, rfl, rfl, SqT.of (s34 _ _ f1), rfl, _, rfl, r, _, 0, .ref t2, rfl, rfl, SqT.of (s34 _ _ h1), rfl, .tuple (kk.text.map iD), .tuple (x.text.map iD), dp_ints (SqT.of (s34 _ _ f2)), dp_ints (SqT.of (s34 _ _ h2)), is_shaped _, is_shaped _, _, rfl, ?_⟩
      have et : PyData.eqv (.tuple (kk.text.map iD)) (.tuple (x.text.map iD)) = decide (kk.text = x.text) := eqvAll_map eqv_int _ _
      rw [et]
      by_cases ct : kk.text = x.text
      · rw [decide_eq_true ct]
        rw [if_pos ct] at k
        refine iteF ?_
        refine ⟨by show 2 ≤ sizeLine; decide, fun q5 hq5 => ?_⟩
        have s5 := s4.trans (Same.new (o := .lst [.int 2, .int 0]) hq5)
        refine ⟨_, rfl, D, acc, _, rfl, SqL.of (s5 _ _ hacc), Paired.mapP racc (fun _ _ q => q.same s5), by omega, fun H6 r6 s6 _ e6 => ?_⟩
        refine ⟨q5, r6, _, _, rfl, rfl, s6 _ _ upd_same, e6, by rw [rV_len, shownS_len]; exact Nat.le_of_lt (lt_size (by show 2 + _ ≤ _; omega)), fun q7 hq7 => ?_⟩
        have s7 : Same H4 (upd H6 q7 (.lst ([V.int 2, V.int 0] ++ rV (Vbjbaj.shownStatements (Vbjbaj.missingStatements (Vbjbaj.relevantOf s.project f) kk.statements))))) := ((Same.new (o := .lst [.int 2, .int 0]) hq5).trans s6).trans (Same.new hq7)
        refine ⟨_, rfl, D2, acc2, _, rfl, SqL.of (s7 _ _ hacc2), Paired.mapP racc2 (fun _ _ q => q.same s7), by omega, fun H8 r8 s8 _ e8 => ?_⟩
        refine ⟨q7, r8, _, _, rfl, rfl, s8 _ _ upd_same, e8, by rw [List.length_append, rV_len, rV_len, shownS_len, shownS_len]; exact Nat.le_of_lt (lt_size (by show 2 + _ + _ ≤ _; omega)), fun q9 hq9 => ?_⟩
        refine k _ q9 (((s24.trans s7).trans s8).trans (Same.new hq9)) ?_
        rw [upd_same]
        simp [rV]
      · rw [decide_eq_false ct]
        rw [if_neg ct] at k
        refine iteT ?_
        refine ⟨by show 2 ≤ sizeLine; decide, fun q5 hq5 => ?_⟩
        have s5 := s4.trans (Same.new (o := .lst [.int 2, .int 1]) hq5)
        refine ⟨_, rfl, D, acc, _, rfl, SqL.of (s5 _ _ hacc), Paired.mapP racc (fun _ _ q => q.same s5), by omega, fun H6 r6 s6 _ e6 => ?_⟩
        refine ⟨q5, r6, _, _, rfl, rfl, s6 _ _ upd_same, e6, by rw [rV_len, shownS_len]; exact Nat.le_of_lt (lt_size (by show 2 + _ ≤ _; omega)), fun q7 hq7 => ?_⟩
        have s7 : Same H4 (upd H6 q7 (.lst ([V.int 2, V.int 1] ++ rV (Vbjbaj.shownStatements (Vbjbaj.missingStatements (Vbjbaj.relevantOf s.project f) kk.statements))))) := ((Same.new (o := .lst [.int 2, .int 1]) hq5).trans s6).trans (Same.new hq7)
        refine ⟨_, rfl, D2, acc2, _, rfl, SqL.of (s7 _ _ hacc2), Paired.mapP racc2 (fun _ _ q => q.same s7), by omega, fun H8 r8 s8 _ e8 => ?_⟩
        refine ⟨q7, r8, _, _, rfl, rfl, s8 _ _ upd_same, e8, by rw [List.length_append, rV_len, rV_len, shownS_len, shownS_len]; exact Nat.le_of_lt (lt_size (by show 2 + _ + _ ≤ _; omega)), fun q9 hq9 => ?_⟩
        refine k _ q9 (((s24.trans s7).trans s8).trans (Same.new hq9)) ?_
        rw [upd_same]
        simp [rV]
end
end Sf
/-! W25: source. -/
namespace Sf
open PySem PySem.Spec PyProof.Rows L2
open Vbjbaj (Statement File Project State Readings)
def stp (best : Option (List Nat)) (l : List Nat) : Option (List Nat) := match best with
  | none => some l
  | some m => if l.length < m.length then some l else best
theorem fold_src (L : Nat → List Nat) : ∀ (gs : List Nat) (b : Nat), (b :: gs).Pairwise (· < ·) → (∀ g ∈ b :: gs, g < 10) → ∃ m ∈ b :: gs, (∀ g ∈ b :: gs, cod ((L m).length, m) ≤ cod ((L g).length, g)) ∧ (gs.map L).foldl stp (some (L b)) = some (L m)
  | [], b, _, _ => ⟨b, by simp, fun g hg => by simp at hg; subst hg; exact Int.le_refl _, rfl⟩
  | a :: r, b, up, lt => by
    have u1 := List.pairwise_cons.mp up
    have u2 := List.pairwise_cons.mp u1.2
    have hab := u1.1 a (by simp)
    rw [List.map_cons, List.foldl_cons]
    by_cases c : (L a).length < (L b).length
    · have e : stp (some (L b)) (L a) = some (L a) := if_pos c
      rw [e]
      obtain ⟨m, h1, h2, h3⟩ := fold_src L r a u1.2 fun g hg => lt g (List.mem_cons_of_mem _ hg)
      refine ⟨m, List.mem_cons_of_mem _ h1, fun g hg => ?_, h3⟩
      rcases List.mem_cons.mp hg with h | h
      · subst h
        have := h2 a (by simp)
        have := lt a (by simp)
        unfold cod at *
        simp only at *
        omega
      · exact h2 g h
    · have e : stp (some (L b)) (L a) = some (L b) := if_neg c
      rw [e]
      obtain ⟨m, h1, h2, h3⟩ := fold_src L r b (List.pairwise_cons.mpr ⟨fun x hx => u1.1 x (List.mem_cons_of_mem _ hx), u2.2⟩) fun g hg => by
        rcases List.mem_cons.mp hg with h | h
        · exact lt g (by simp [h])
        · exact lt g (by simp [h])
      refine ⟨m, by rcases List.mem_cons.mp h1 with h | h <;> simp [h], fun g hg => ?_, h3⟩
      rcases List.mem_cons.mp hg with h | h
      · exact h2 g (by simp [h])
      · rcases List.mem_cons.mp h with h | h
        · subst h
          have := h2 b (by simp)
          unfold cod at *
          simp only at *
          omega
        · exact h2 g (by simp [h])
def hasSt (p : Project) (w : Statement) (g : Nat) : Bool := Vbjbaj.doesExist p g && (Vbjbaj.fileAt p g).any fun x => x.statements.contains w
def pathOr (p : Project) (f g : Nat) : List Nat := (Vbjbaj.path p f g).getD []
def sourceOut (p : Project) (f : Nat) (w : Statement) : List Int := match ((Vbjbaj.visible p f).filterMap fun g => if ((Vbjbaj.fileAt p g).any fun x => x.statements.contains w) = true then Vbjbaj.path p f g else none).foldl (fun (best : Option (List Nat)) l => match best with
        | none => some l
        | some m => if l.length < m.length then some l else best) none with
      | none => [0]
      | some l => 1 :: Vbjbaj.counted l
/-- the files that are looked at -/
def srcs (p : Project) (f : Nat) (w : Statement) : List Nat := (Vbjbaj.reachedFrom p f).filter (hasSt p w)
theorem source_eq {t : Nat} {p : Project} (pw : PWf t p) {f : Nat} (hf : f < 10) (w : Statement) : sourceOut p f w = match ((srcs p f w).map (pathOr p f)).foldl stp none with
      | none => [0]
      | some l => 1 :: Vbjbaj.counted l := by
  have e : ((Vbjbaj.visible p f).filterMap fun g => if ((Vbjbaj.fileAt p g).any fun x => x.statements.contains w) = true then Vbjbaj.path p f g else none) = (srcs p f w).map (pathOr p f) := by
    unfold Vbjbaj.visible srcs
    have key : ∀ l : List Nat, (∀ g ∈ l, g ∈ Vbjbaj.reachedFrom p f) → ((l.filter (Vbjbaj.doesExist p)).filterMap fun g => if ((Vbjbaj.fileAt p g).any fun x => x.statements.contains w) = true then Vbjbaj.path p f g else none) = (l.filter (hasSt p w)).map (pathOr p f) := by
      intro l
      induction l with
      | nil => intro _; rfl
      | cons a l ih =>
        intro hl
        have ih := ih fun g hg => hl g (List.mem_cons_of_mem _ hg)
        have ra := (path_isSome pw.graph hf).mpr ((mem_reached pw.graph hf).mp (hl a (by simp)))
        obtain ⟨la, hla⟩ := Option.isSome_iff_exists.mp ra
        cases c : Vbjbaj.doesExist p a with
        | false =>
          rw [List.filter_cons_of_neg (by simp [c]), List.filter_cons_of_neg (by unfold hasSt; simp [c]), ih]
        | true =>
          rw [List.filter_cons_of_pos c, List.filterMap_cons]
          by_cases c2 : ((Vbjbaj.fileAt p a).any fun x => x.statements.contains w) = true
          · rw [if_pos c2, hla, List.filter_cons_of_pos (by unfold hasSt; rw [c, c2]; rfl), List.map_cons, ih]
            unfold pathOr
            rw [hla]
            rfl
          · rw [if_neg c2, List.filter_cons_of_neg (by unfold hasSt; rw [c]; simpa using c2), ih]
    exact key _ fun g hg => hg
  unfold sourceOut
  rw [e]
  rfl
def lenV (p : Project) (f : Nat) (g : Nat) : List V := [.int (((pathOr p f g).length : Nat) : Int), .int (g : Int)]
section
variable {P : Program} {w : World} {K : PySem.W.Frag} {mg : Str → Option Value} {base : Heap} {A : Ad}
def sp_source (K : PySem.W.Frag) (A : Ad) : Sp := fun vs H Q E => ∃ (pa ta : Addr) (f : Nat) (x : Int × Int × Int) (s : State), vs = [.ref pa, .int (f : Int), .ref ta] ∧ H ta = some (.tup (st3V x)) ∧ PjAt A H pa s ∧ Vbjbaj.doesExist s.project f = true ∧ (isStI s.tokens x = false → Fails A H (-1) E) ∧
  (isStI s.tokens x = true → ∀ H' r, Same H H' → H' r = some (.lst (rV (sourceOut s.project f (toSt x)))) → Q (.ref r) H')
theorem ok_source (T : Txt K mg A) (M_is_statement : MCal P w K mg base CX0 1 A.Project "is_statement" ["self", "kind", "form", "other"] (sp_is_statement A)) (C_need : Cal P w K mg base (L2.CX P w) 3 "need" ["is_right", "code"] (sp_need A)) (C_paths_from : Cal P w K mg base CX0 2 "paths_from" ["files", "number", "left"] (sp_paths_from K A)) (C_listed : Cal P w K mg base CX0 1 "listed" ["some"] (sp_listed K)) {f : Addr} {fd : FuncData} (F : Fun K "source" "source" s_source f fd) : FnOk P w K mg base (L2.CX P w) 4 f fd ["project", "number", "statement"] (sp_source K A) := by
  refine F.okX sc_source (fun vs H Q E h => by obtain ⟨pa, ta, f, x, s, rfl, _⟩ := h; rfl) (fun cdv A' outer s H vs Q E hr h => ?_)
  have hu := hu_of hr
  have hu64 := hu64_of hr
  have hu65 := hu65_of hr
  refine ⟨_, (pss_cons (ps_expr (pe_cal C_need (hr.mono (by decide)) (passes_call (takes_of rfl rfl rfl rfl) (fun _ _ _ _ h => h)) (pa_cons (pe_mcal M_is_statement T.clP (pv 0) (hr.mono (by decide)) pass0 (pa_cons (pe_ix ix_tup (pv 2) pe_int (fun _ _ => rfl)) (pa_cons (pe_ix ix_tup (pv 2) pe_int (fun _ _ => rfl)) (pa_cons (pe_ix ix_tup (pv 2) pe_int (fun _ _ => rfl)) pa_nil)))) (pa_cons (pe_un un_neg pe_int) pa_nil))))
(PSs.nox (pss_cons (ps_set (i := 3) sc_source.nd rfl (Or.inl rfl) (pe_cal C_paths_from (hr.mono (by decide)) pass0 (pa_cons (pe_fld (pv 0) rfl) (pa_cons (pv 1) (pa_cons (pe_tup pa_nil) pa_nil)))))
(pss_cons (ps_set (i := 4) sc_source.nd rfl (Or.inl rfl) (pe_lst pa_nil))
(pss_cons (ps_lock (ps_for PassesOwn.never rfl (pi_keys (pv 3)) (pg_name (i := 5) sc_source.nd rfl (Or.inl rfl)) (pss_one (ps_if (PW.pt (pw_and (pt_cmp (pc_din hu (pv 5) (pe_fld (pv 0) rfl)) (by rfl)) (pw_and1 (pt_cmpR (op_inDT hu65) (pv 2) (pe_fld (pe_dget hu (pe_fld (pv 0) rfl) (pv 5) (fun _ _ => rfl)) rfl) (by rfl))))) (pss_one (ps_expr (pe_bm PySem.F.plainAttrs_list PySem.F.slot_list_append PySem.F.type_list_append mt_append (pv 4) (pa_cons (pe_tup (pa_cons (pe_callB call_len_seq (by rfl) T.b_len (by decide +kernel) (pa_cons (pe_dget hu (pv 3) (pv 5) (fun _ _ => rfl)) pa_nil)) (pa_cons (pv 5) pa_nil))) pa_nil)))) pss_nil))))
(pss_one (ps_ret (pe_ifExp (pt_truth (pv 4) (by intro _; rfl)) (pe_op op_cat (pe_lst (pa_cons pe_int pa_nil)) (pe_cal C_listed (hr.mono (by decide)) pass0 (pa_cons (pe_dget hu (pv 3) (pe_ix ix_tup (pe_callB (cr_minP rfl hu64) (by rfl) T.b_min (by decide +kernel) (pa_cons (pv 4) pa_nil)) pe_int (fun _ _ => rfl)) (fun _ _ => rfl)) pa_nil))) (pe_lst (pa_cons pe_int pa_nil)))))))))), ?_⟩
  obtain ⟨pa, ta, f, x, s, rfl, hta, ⟨ok, dx, df, kd, bl, pj⟩, hf, kf, k⟩ := h
  have pw := ok.pw
  have hf10 := pw.lt hf
  have fld : ∀ {H1 : Hp}, Same H H1 → H1 pa = some (.ins A.Project dx (projF s.tokens df kd bl)) := fun e => e _ _ pj.ob
  have fa := pj.fu.at_
  refine ⟨_, rfl, pa, dx, _, rfl, pj.ob, projF_none (by decide +kernel) (by decide +kernel) (by decide +kernel) (by decide +kernel) _ _ _ _, _, rfl, ta, _, 0, .int x.1, rfl, rfl, SqT.of hta, rfl, _, rfl, ta, _, 1, .int x.2.1, rfl, rfl, SqT.of hta, rfl, _, rfl, ta, _, 2, .int x.2.2, rfl, rfl, SqT.of hta, rfl, ?_⟩
  refine ⟨pa, dx, df, kd, bl, s.tokens, x, rfl, pw.tk, pj.ob, _, rfl, _, _, rfl, ?_, fun hn => kf hn⟩
  intro y1
  have k := k y1
  have hx : StV H (.ref ta) (toSt x) := by
    refine ⟨ta, rfl, ?_⟩
    unfold isStI at y1
    simp only [Bool.and_eq_true, decide_eq_true_eq] at y1
    obtain ⟨h1, h2, h3⟩ := y1
    rw [hta]
    unfold st3V stT toSt
    simp only [Int.toNat_of_nonneg h1.1, Int.toNat_of_nonneg h2.1, Int.toNat_of_nonneg h3.1]
  generalize toSt x = ws at k hx
  rw [source_eq pw hf10] at k
  -- the paths
  refine ⟨_, rfl, pa, A.Project, dx, _, _, rfl, pj.ob, T.clP, T.nP_files, projF_files _ _ _ _, _, rfl, by show 0 ≤ sizeLine; decide, fun q0 hq0 => ?_⟩
  have s0 : Same H (upd H q0 (.tup [])) := Same.new hq0
  refine ⟨df, f, s.tokens, .ref q0, s.project, [], rfl, hf10, pw, fa.same s0, ⟨q0, rfl, .inl ⟨rfl, SqT.of upd_same⟩⟩, fun H1 r kvs s1 hr0 hr1 pk => ?_⟩
  rw [without_nil] at pk
  obtain ⟨ks, eks, nks, mks⟩ := pk.ks
  have s01 := s0.trans s1
  have hrH : H r = none := s0.free hr0
  refine ⟨by show 0 ≤ sizeLine; decide, fun sl hsl => ?_⟩
  have nrs : r ≠ sl := fun z => by rw [← z, hr1] at hsl; cases hsl
  have s2 : Same H1 (upd H1 sl (.lst [])) := Same.new hsl
  have hr2 : upd H1 sl (.lst []) r = some (.dK kvs) := s2 _ _ hr1
  have es2 : upd H1 sl (.lst []) sl = some (.lst []) := upd_same
  have s02 := s01.trans s2
  have slH : H sl = none := s01.free hsl
  have lst1 : ∀ {a : Addr} {l : List V}, H1 a = some (.lst l) → a ≠ r ∧ a ≠ sl := fun e => ⟨(fun z => by rw [z, hr1] at e; cases e), (fun z => by rw [z, hsl] at e; cases e)⟩
  refine ⟨r, .dK kvs, hr2, True.intro, fun od => ?_⟩
  have hl1 : upd (upd H1 sl (.lst [])) r (.frz od (.dK kvs)) r = some (.frz od (.dK kvs)) := upd_same
  have sHL : Same H (upd (upd H1 sl (.lst [])) r (.frz od (.dK kvs))) := Same.put s02 hrH
  have esL : upd (upd H1 sl (.lst [])) r (.frz od (.dK kvs)) sl = some (.lst []) := by rw [upd_ne nrs.symm]; exact es2
  have lsL : ∀ {a : Addr} {l : List V}, H1 a = some (.lst l) → upd (upd H1 sl (.lst [])) r (.frz od (.dK kvs)) a = some (.lst l) := fun e => by rw [upd_ne (lst1 e).1]; exact s2 _ _ e
  generalize upd (upd H1 sl (.lst [])) r (.frz od (.dK kvs)) = HL at hl1 sHL esL lsL
  have lks := ks_size nks mks
  refine ⟨_, rfl, r, od, rfl, .inl ⟨kvs, hl1, ?_⟩⟩
  have lkk : kvs.length = ks.length := map_len eks
  refine for_it (walk_keys (d := r) (o := od) (kvs := kvs)) (fun i σ H' => ∃ x5 : Option V, σ = [some (.ref pa), some (.int (f : Int)), some (.ref ta), some (.ref r), some (.ref sl), x5] ∧ SameX sl HL H' ∧ ∃ acc, H' sl = some (.lst acc) ∧ Paired (TupV (lenV s.project f) H') acc ((ks.take i).filter (hasSt s.project ws)))
    ⟨none, rfl, SameX.refl _ _, [], esL, .nil⟩ (fun i σ H' _ ⟨_, _, q, _⟩ => q _ _ nrs hl1) ?_ ?_
  · rintro i y σ H2 H3 hi ⟨x5, rfl, sx, acc, hacc, racc⟩ ⟨rfl, kk, v, hkv, rfl⟩
    obtain ⟨g, hg, rfl⟩ := keys_at' eks hkv
    have gm := (mks g).mp (List.mem_of_getElem? hg)
    have ev := take_succ' hg
    have sH3 : Same H H3 := SameX.same sHL slH sx
    obtain ⟨o, go, ho⟩ := (fa.same sH3).has g
    have lacc : acc.length ≤ 10 := by
      rw [Paired.len racc]
      refine Nat.le_trans (List.length_filter_le _ _) ?_
      rw [List.length_take]; omega
    have no : hasSt s.project ws g = false → Paired (TupV (lenV s.project f) H3) acc ((ks.take (i + 1)).filter (hasSt s.project ws)) := fun h => by
      rw [ev, List.filter_append, List.filter_cons_of_neg (by rw [h]; decide), List.filter_nil, List.append_nil]
      exact racc
    refine ⟨_, rfl, _, rfl, pa, A.Project, dx, _, _, rfl, fld sH3, T.clP, T.nP_files, projF_files _ _ _ _, df, o, rfl, go, _, rfl, ?_⟩
    rw [ho]
    refine ite2 (fun c => ?_) (fun c => ?_)
    · obtain ⟨xf, hxf⟩ := doesExist_iff.mp c
      obtain ⟨b, ga, dxf, it, st, tt, ss, h1, h2, h3, h4, h5⟩ := (fa.same sH3).get hxf
      refine ⟨_, rfl, _, rfl, pa, A.Project, dx, _, _, rfl, fld sH3, T.clP, T.nP_files, projF_files _ _ _ _, _, rfl, df, _, rfl, ga, b, A.File, dxf, _, _, rfl, h1, T.clF, T.nF_statements, fileF_statements it st tt, stD ws, xf.statements.map stD, dp_st (hx.same sH3), dp_sts (SqT.of h3) h4, st_shaped _, sts_shaped _, _, rfl, ?_⟩
      rw [any_st]
      have eh : hasSt s.project ws g = xf.statements.contains ws := by unfold hasSt; rw [c, hxf]; rfl
      refine ite2 (fun c2 => ?_) (fun c2 => ?_)
      · obtain ⟨a, l, v1, v2, v3⟩ := pk.at_ g gm
        have va := sx _ _ (lst1 v2).2 (lsL v2)
        have el : pathOr s.project f g = l := by unfold pathOr; rw [v3]; rfl
        refine ⟨_, rfl, .inl ⟨rfl, _, SqL.of hacc⟩, _, rfl, _, rfl, r, _, rfl, .inl ⟨kvs, .inl (g : Int), .inr ⟨od, sx _ _ nrs hl1⟩, rfl, v1.symm⟩, a, _, rfl, .inl (SqL.of va), _, rfl, by show 2 ≤ sizeLine; decide, fun q hq => ?_⟩
        have t1 : Same H3 (upd H3 q (.tup [.int ((nV l).length : Nat), .int (g : Int)])) := Same.new hq
        have hacc2 := t1 _ _ hacc
        have et : upd H3 q (.tup [.int ((nV l).length : Nat), .int (g : Int)]) q = some (.tup (lenV s.project f g)) := by
          rw [upd_same, nV_len]
          unfold lenV
          rw [el]
        refine ⟨sl, acc, _, rfl, rfl, hacc2, lt_size (by omega), ?_⟩
        have sxx : SameX sl (upd H3 q (.tup [.int ((nV l).length : Nat), .int (g : Int)])) (upd (upd H3 q (.tup [.int ((nV l).length : Nat), .int (g : Int)])) sl (.lst (acc ++ [.ref q]))) := (SameX.refl _ _).put
        refine ⟨_, rfl, (sx.more t1).put, _, upd_same, ?_⟩
        rw [ev, List.filter_append, List.filter_cons_of_pos (by rw [eh]; exact c2), List.filter_nil]
        exact Paired.snoc (TupV.sx sxx hacc2 (fun _ z => by cases z) ⟨q, rfl, et⟩) (Paired.mapP racc fun _ _ z => (z.same t1).sx sxx hacc2 fun _ z => by cases z)
      · exact ⟨_, rfl, sx, acc, hacc, no (by rw [eh]; simpa using c2)⟩
    · refine iteF ⟨_, rfl, sx, acc, hacc, no ?_⟩
      unfold hasSt
      rw [Bool.not_eq_true] at c
      rw [c]
      rfl
  · rintro σ H3 ⟨x5, rfl, sx, acc, hacc, racc⟩
    rw [lkk, List.take_length] at racc
    refine ⟨sx _ _ nrs hl1, ?_⟩
    have hr3 := sx _ _ nrs hl1
    have ns : sl ≠ r := nrs.symm
    have u1 : Same H (upd H3 r (.dK kvs)) := Same.put (SameX.same sHL slH sx) hrH
    have u2 : upd H3 r (.dK kvs) sl = some (.lst acc) := by rw [upd_ne ns]; exact hacc
    have u3 : upd H3 r (.dK kvs) r = some (.dK kvs) := upd_same
    have u4 : Paired (TupV (lenV s.project f) (upd H3 r (.dK kvs))) acc (ks.filter (hasSt s.project ws)) := Paired.mapP racc fun _ _ ⟨b, e1, e2⟩ => ⟨b, e1, by rw [upd_ne fun z => by rw [z, hr3] at e2; cases e2]; exact e2⟩
    have u5 : ∀ {a : Addr} {l : List V}, H1 a = some (.lst l) → upd H3 r (.dK kvs) a = some (.lst l) := fun e => by rw [upd_ne (lst1 e).1]; exact sx _ _ (lst1 e).2 (lsL e)
    generalize upd H3 r (.dK kvs) = H4 at u1 u2 u3 u4 u5
    have perm : ∀ g, g ∈ ks.filter (hasSt s.project ws) ↔ g ∈ srcs s.project f ws := fun g => by
      unfold srcs
      rw [List.mem_filter, List.mem_filter, mks]
    have up : (srcs s.project f ws).Pairwise (· < ·) := List.Pairwise.filter _ reached_up
    cases eS : srcs s.project f ws with
    | nil =>
      have e0 : ks.filter (hasSt s.project ws) = [] := by
        rw [List.eq_nil_iff_forall_not_mem]
        intro g hg
        have := (perm g).mp hg
        rw [eS] at this
        simp at this
      rw [e0] at u4
      cases u4
      rw [eS] at k
      refine ⟨_, rfl, false, tru_list (SqL.of u2) rfl, iteF ⟨by show 1 ≤ sizeLine; decide, fun q1 hq1 => k _ q1 (u1.trans (Same.new hq1)) upd_same⟩⟩
    | cons b0 gs =>
      rw [eS] at up k
      obtain ⟨m, hm, hmin, hfold⟩ := fold_src (pathOr s.project f) gs b0 up fun g hg => by
        rw [← eS] at hg
        exact reached_lt (List.mem_filter.mp hg).1
      have k : ∀ (H' : Hp) (r : Addr), Same H H' → H' r = some (.lst (rV (1 :: Vbjbaj.counted (pathOr s.project f m)))) → Q (.ref r) H' := by
        have e : (((b0 :: gs).map (pathOr s.project f)).foldl stp none) = some (pathOr s.project f m) := hfold
        rw [e] at k
        exact k
      have ne : 0 < acc.length := by
        rw [Paired.len u4]
        have : b0 ∈ ks.filter (hasSt s.project ws) := (perm b0).mpr (by rw [eS]; simp)
        exact List.length_pos_of_mem this
      obtain ⟨ts, rfl, rts⟩ := TupVs.refs u4
      have rts2 : ∀ {H' : Hp}, Same H4 H' → Paired (fun t (p : Nat × Nat) => SqT K H' t [.int (p.1 : Int), .int (p.2 : Int)]) ts ((ks.filter (hasSt s.project ws)).map fun g => ((pathOr s.project f g).length, g)) := fun {H'} e => by
        have gen : ∀ {ts : List Addr} {l : List Nat}, Paired (fun t g => H4 t = some (.tup (lenV s.project f g))) ts l → Paired (fun t (p : Nat × Nat) => SqT K H' t [.int (p.1 : Int), .int (p.2 : Int)]) ts (l.map fun g => ((pathOr s.project f g).length, g)) := by
          intro ts l r
          induction r with
          | nil => exact .nil
          | cons h t ih => exact .cons (SqT.of (e _ _ h)) ih
        exact gen rts
      refine ⟨_, rfl, true, tru_list (SqL.of u2) (by cases ts with
        | nil => simp at ne
        | cons a r => rfl), iteT ⟨by show 1 ≤ sizeLine; decide, fun q1 hq1 => ?_⟩⟩
      have v1 : Same H4 (upd H4 q1 (.lst [.int 1])) := Same.new hq1
      refine ⟨_, rfl, _, rfl, sl, ts, _, rfl, SqL.of (v1 _ _ u2), rts2 v1, by simpa using ne, fun p hp => ?_, fun i t p h1 h2 hall => ?_⟩
      · obtain ⟨g, hg, rfl⟩ := List.mem_map.mp hp
        have := reached_lt ((mks g).mp (List.mem_filter.mp hg).1)
        show g < 1000
        omega
      · obtain ⟨g, hg, rfl⟩ := List.mem_map.mp (List.mem_of_getElem? h2)
        have gS := (perm g).mp hg
        have gm : g = m := by
          have a1 := hall ((pathOr s.project f m).length, m) (List.mem_map.mpr ⟨m, (perm m).mpr (by rw [eS]; exact hm), rfl⟩)
          have a2 := hmin g (by rw [← eS]; exact gS)
          have b1 : g < 10 := reached_lt ((mks g).mp (List.mem_filter.mp hg).1)
          have b2 : m < 10 := by
            rw [← eS] at hm
            exact reached_lt (List.mem_filter.mp hm).1
          unfold cod at a1 a2
          simp only at a1 a2
          omega
        subst gm
        have ht := pair_at (rts2 v1) h1
        obtain ⟨p', hp', htt⟩ := ht
        rw [h2] at hp'
        cases hp'
        have gr : g ∈ Vbjbaj.reachedFrom s.project f := (List.mem_filter.mp gS).1
        obtain ⟨a, l, w1, w2, w3⟩ := pk.at_ g gr
        have el : pathOr s.project f g = l := by unfold pathOr; rw [w3]; rfl
        rw [el] at k
        have ll := path_len pw hf10 w3
        refine ⟨t, _, 1, .int (g : Int), rfl, rfl, htt, rfl, r, .ref a, rfl, ?_, a, l, rfl, .inl (SqL.of (v1 _ _ (u5 w2))), by omega, fun H6 r6 s6 _ e6 => ?_⟩
        · rw [← w1]
          exact DGet.k (k := .inl (g : Int)) (v1 _ _ u3)
        · refine ⟨q1, r6, _, _, rfl, rfl, s6 _ _ upd_same, e6, ?_, fun r7 hr7 => k _ r7 (((u1.trans v1).trans s6).trans (Same.new hr7)) upd_same⟩
          rw [rV_len, counted_len]
          exact Nat.le_of_lt (lt_size (by simp; omega))
end
end Sf
/-! W26: what changes a project. -/
namespace Sf
open PySem PySem.Spec PyProof.Rows L2
open Vbjbaj (Statement File Project State Readings)
open Sem (wp)
def gFld (K : PySem.W.Frag) (ta : TE) (f : Str) : TG := fun v σ H Q => ta σ H fun x H1 => ∃ a C dx fs, x = .ref a ∧ H1 a = some (.ins C dx fs) ∧ Cls K C ∧ NoAttr K C f ∧ fs.length < 1000 ∧ Q σ (upd H1 a (.ins C dx (putF f v fs)))
theorem asg_attr {M : Model} {A : Around} {E : Value → Shared → Prop} {s : Shared} {env : Env} {o : Expr} {attr : Str} {pos : Pos} {u : Value} {Q : Unit → Shared → Prop}
    (h : wpAny M A (eval o env) (fun ov s₂ => wpAny M A (setAttr ov attr u) Q E s₂) E s) : wpAny M A (assign (.Attribute o attr pos) env u) Q E s := fun Γ p hΓ => by
  simp only [assign_Attribute, Sem.wp_bind', Sem.wp_holding, Sem.wp_cmd_standAt, Sem.wp_release]
  exact Sem.wp_mono M Γ _ (fun ov _ s₂ h₂ => h₂ Γ _ hΓ) (fun _ _ _ h' => h') _ _ (h Γ p hΓ)
theorem pg_fld {X : Cx} {o : Expr} {ta : TE} {f : Str} {pos : Pos} (ha : PE X o ta) : PG X (.Attribute o f pos) (gFld X.K ta f) := by
  refine ⟨fun pins s σ H v u Q I r h => ?_⟩
  refine asg_attr (thn (ha.run pins s σ H _ I h) fun ov s2 ⟨x, H2, I2, rx, a, C, dx, fs, ex, ea, c, n, l, q2⟩ => ?_)
  subst ex
  obtain rfl : ov = Value.ref a := rx
  exact setattr_ok I2 ea c n l r fun s3 I3 => ⟨σ, _, I3, q2⟩
theorem valV_drop (kvs : List (Key × V)) (k g : Key) : valV (dropK kvs k) g = if g = k then none else valV kvs g := by
  induction kvs with
  | nil => simp [dropK, valV_nil]
  | cons kv r ih =>
    by_cases c : kv.1 = k
    · rw [dropK_pos c, ih]
      by_cases e : g = k
      · rw [if_pos e, if_pos e]
      · rw [if_neg e, if_neg e, valV_neg fun z => e (z.symm.trans c)]
    · rw [dropK_neg c]
      by_cases e : g = kv.1
      · subst e
        rw [valV_pos rfl, if_neg c, valV_pos rfl]
      · rw [valV_neg fun z => e z.symm, ih]
        by_cases e2 : g = k
        · rw [if_pos e2, if_pos e2]
        · rw [if_neg e2, if_neg e2, valV_neg fun z => e z.symm]
theorem KF.drop {C : Addr} {H H' : Hp} {kvs : List (Key × V)} {p : Project} (h : KF C H kvs p) (hs : ∀ f x a, Vbjbaj.fileAt p f = some x → FileAt C H a x → FileAt C H' a x) {f : Nat} (hf : f < p.length) : KF C H' (dropK kvs (.inl (f : Int))) (Vbjbaj.put p f none) := by
  obtain ⟨ks, ek, mk⟩ := h.ks
  refine ⟨nd_dropK h.nd, ⟨ks.filter fun g => decide (g ≠ f), ?_, fun g => ?_⟩, fun g x e => ?_⟩
  · rw [keys_drop, ek, List.filter_map]
    congr 1
    refine List.filter_congr fun g _ => ?_
    show decide ((Sum.inl (g : Int) : Key) ≠ Sum.inl (f : Int)) = decide (g ≠ f)
    refine decide_eq_decide.mpr (not_congr ⟨fun z => by have := Sum.inl.inj z; omega, fun z => by rw [z]⟩)
  · rw [List.mem_filter, mk, fileAt_put hf, decide_eq_true_eq]
    by_cases e : g = f
    · rw [if_pos e]; simp [e]
    · rw [if_neg e]; simp [e]
  · rw [fileAt_put hf] at e
    by_cases c : g = f
    · rw [if_pos c] at e; cases e
    · rw [if_neg c] at e
      obtain ⟨a, h1, h2⟩ := h.at_ g x e
      refine ⟨a, ?_, hs _ _ _ e h2⟩
      rw [valV_drop, if_neg fun z => c (by have := Sum.inl.inj z; omega)]
      exact h1
theorem isFile_of {t : Nat} {im st tx : List Int} {x : File} (h : Vbjbaj.fileFrom t im st tx = some x) : Vbjbaj.isFile t x = true := by
  unfold Vbjbaj.fileFrom at h
  split at h
  · cases h
  · simp only at h
    split at h
    · cases h; assumption
    · cases h
section
variable {P : Program} {w : World} {K : PySem.W.Frag} {mg : Str → Option Value} {base : Heap} {A : Ad}
def RowsOf (H : Hp) (rw_ : Addr) (im st tx : List Int) : Prop := ∃ a b c : Addr, H rw_ = some (.lst [.ref a, .ref b, .ref c]) ∧ H a = some (.lst (rV im)) ∧ H b = some (.lst (rV st)) ∧ H c = some (.lst (rV tx)) ∧ im.length ≤ 10000000 ∧ st.length ≤ 10000000 ∧ tx.length ≤ 10000000
theorem RowsOf.same {H H' : Hp} {r : Addr} {im st tx : List Int} (e : Same H H') (h : RowsOf H r im st tx) : RowsOf H' r im st tx := by
  obtain ⟨a, b, c, h1, h2, h3, h4, h5⟩ := h
  exact ⟨a, b, c, e _ _ h1, e _ _ h2, e _ _ h3, e _ _ h4, h5⟩
def sp_with_file (A : Ad) : Sp := fun vs H Q E => ∃ (pa rw_ : Addr) (f : Nat) (s : State) (im st tx : List Int), vs = [.ref pa, .int (f : Int), .ref rw_] ∧ f < 10 ∧ PjAt A H pa s ∧ RowsOf H rw_ im st tx ∧ (Vbjbaj.fileFrom s.tokens im st tx = none → Fails A H (-1) E) ∧
  ∀ x, Vbjbaj.fileFrom s.tokens im st tx = some x → ∀ H' r, Same H H' → H r = none → FilesU A.File H' r (Vbjbaj.put s.project f (some x)) → Q (.ref r) H'
theorem ok_with_file (T : Txt K mg A) (M_file : MCal P w K mg base (L2.CX P w) 4 A.Project "file" ["self", "rows"] (sp_Project_file A)) {f : Addr} {fd : FuncData} (F : Fun K "with_file" "with_file" s_with_file f fd) : FnOk P w K mg base (L2.CX P w) 5 f fd ["project", "number", "rows"] (sp_with_file A) := by
  refine F.okX sc_with_file (fun vs H Q E h => by obtain ⟨pa, rw_, f, s, im, st, tx, rfl, _⟩ := h; rfl) (fun cdv A' outer s H vs Q E hr h => ?_)
  have hu := hu_of hr
  refine ⟨_, (pss_cons (ps_set (i := 3) sc_with_file.nd rfl (Or.inl rfl) (pe_callTy call_dictD (by rfl) T.b_dict (by decide +kernel) (pa_cons (pe_fld (pv 0) rfl) pa_nil)))
(pss_cons (ps_dput hu (pv 3) (pv 1) (pe_mcal M_file T.clP (pv 0) (hr.mono (by decide)) (passes_call (takes_of rfl rfl rfl rfl) (fun _ _ _ _ h => h)) (pa_cons (pv 2) pa_nil)) rfl)
(pss_one (ps_ret (pv 3))))), ?_⟩
  obtain ⟨pa, rw_, f, s, im, st, tx, rfl, hf, ⟨ok, dx, df, kd, bl, pj⟩, ro, kf, k⟩ := h
  obtain ⟨kvs, hd, kff⟩ := pj.fu
  refine ⟨_, rfl, pa, A.Project, dx, _, _, rfl, pj.ob, T.clP, T.nP_files, projF_files _ _ _ _, df, kvs, rfl, .inl hd, fun nd hnd => ?_⟩
  have s0 : Same H (upd H nd (.dK kvs)) := Same.new hnd
  obtain ⟨a, b, c, r1, r2, r3, r4, l1, l2, l3⟩ := ro.same s0
  refine ⟨_, rfl, pa, dx, _, rfl, s0 _ _ pj.ob, projF_none (by decide +kernel) (by decide +kernel) (by decide +kernel) (by decide +kernel) _ _ _ _, _, rfl, pa, rw_, a, b, c, dx, df, kd, bl, s.tokens, im, st, tx, rfl, ok.pw.tk, s0 _ _ pj.ob, r1, r2, r3, r4, l1, l2, l3, fun h => (kf h).after s0, fun x hx H1 y s1 fy => ?_⟩
  have dfe : H1 nd = some (.dK kvs) := s1 _ _ upd_same
  have kl : kvs.length ≤ 10 := by rw [kf_len ok.pw kff]; exact exs_len _
  have xd : SameND H1 (upd H1 nd (.dK (putK kvs (.inl (f : Int)) (.ref y)))) := SameND.lock dfe
  have s2 : Same H (upd H1 nd (.dK (putK kvs (.inl (f : Int)) (.ref y)))) := Same.put (s0.trans s1) hnd
  refine ⟨_, rfl, _, rfl, nd, _, rfl, DPut.k (k := .inl (f : Int)) dfe (small1000 (by omega)), _, rfl, ?_⟩
  exact k x hx _ nd s2 hnd ⟨_, upd_same, kff.put s2 (by rw [ok.pw.len]; exact hf) (fy.nd xd)⟩
def sp_without_file (A : Ad) : Sp := fun vs H Q _ => ∃ (pa : Addr) (f : Nat) (s : State), vs = [.ref pa, .int (f : Int)] ∧ Vbjbaj.doesExist s.project f = true ∧ PjAt A H pa s ∧
  ∀ H' r, Same H H' → H r = none → FilesU A.File H' r (Vbjbaj.put s.project f none) → Q (.ref r) H'
theorem ok_without_file (T : Txt K mg A) {f : Addr} {fd : FuncData} (F : Fun K "without_file" "without_file" s_without_file f fd) : FnOk P w K mg base CX0 1 f fd ["project", "number"] (sp_without_file A) := by
  refine F.ok sc_without_file (fun vs H Q E h => by obtain ⟨pa, f, s, rfl, _⟩ := h; rfl) (fun cdv A' outer s H vs Q E hr h => ?_)
  refine ⟨_, (pss_cons (ps_set (i := 2) sc_without_file.nd rfl (Or.inl rfl) (pe_callTy call_dictD (by rfl) T.b_dict (by decide +kernel) (pa_cons (pe_fld (pv 0) rfl) pa_nil)))
(pss_cons (ps_expr (pe_dpop1 (pv 2) (pv 1) ⟨rfl, rfl, rfl, rfl⟩))
(pss_one (ps_ret (pv 2))))), ?_⟩
  obtain ⟨pa, f, s, rfl, hf, ⟨ok, dx, df, kd, bl, pj⟩, k⟩ := h
  obtain ⟨kvs, hd, kff⟩ := pj.fu
  obtain ⟨x, hx⟩ := doesExist_iff.mp hf
  obtain ⟨a, ea, fa⟩ := kff.at_ f x hx
  refine ⟨_, rfl, pa, A.Project, dx, _, _, rfl, pj.ob, T.clP, T.nP_files, projF_files _ _ _ _, df, kvs, rfl, .inl hd, fun nd hnd => ?_⟩
  have s0 : Same H (upd H nd (.dK kvs)) := Same.new hnd
  refine ⟨_, rfl, nd, rfl, .inl ⟨_, .inl upd_same⟩, _, rfl, kvs, .inl (f : Int), _, upd_same, rfl, ea, _, rfl, ?_⟩
  have s2 : Same H (upd (upd H nd (.dK kvs)) nd (.dK (dropK kvs (.inl (f : Int))))) := Same.put s0 hnd
  exact k _ nd s2 hnd ⟨_, upd_same, kff.drop (fun _ _ _ _ q => q.same s2) (by rw [ok.pw.len]; exact ok.pw.lt hf)⟩
/-! ### what has been read -/
theorem noteAll_at (p : Project) (r : Readings) (l : List Nat) {f : Nat} (hf : f < r.length) : (Vbjbaj.noteAll p r l).getD f none = if l.contains f = true then Vbjbaj.keyOf p f else r.getD f none := by
  unfold Vbjbaj.noteAll
  rw [List.getD_eq_getElem?_getD, List.getElem?_map, List.getElem?_zipIdx, List.getElem?_eq_getElem hf]
  simp only [Option.map_some, Option.getD_some, Nat.zero_add]
  rw [List.getD_eq_getElem?_getD, List.getElem?_eq_getElem hf]
  rfl
theorem noteAll_len (p : Project) (r : Readings) (l : List Nat) : (Vbjbaj.noteAll p r l).length = r.length := by simp [Vbjbaj.noteAll]
theorem Kept.congr {H : Hp} {kd : Addr} {r r' : Readings} (e : ∀ f, f < 10 → r'.getD f none = r.getD f none) (h : Kept H kd r) : Kept H kd r' := by
  obtain ⟨kvs, ks, h1, h2, h3, h4, h5⟩ := h
  exact ⟨kvs, ks, h1, h2, h3, h4, fun f hf => by rw [e f hf]; exact h5 f hf⟩
theorem PjI.read {A : Ad} {H : Hp} {pa dx df kd bl : Addr} {s : State} (h : PjI A H pa dx df kd bl s) {f : Nat} (hf : f < 10) {v : V} {k : Vbjbaj.Key} (hv : KeyV H v k) {r' : Readings} (hr : ∀ g, g < 10 → r'.getD g none = if g = f then some k else s.readings.getD g none) :
    ∃ kvs, H kd = some (.dK kvs) ∧ kvs.length ≤ 10 ∧ PjI A (upd H kd (.dK (putK kvs (.inl (f : Int)) v))) pa dx df kd bl { s with readings := r' } ∧ SameL H (upd H kd (.dK (putK kvs (.inl (f : Int)) v))) := by
  obtain ⟨kvs, ks, h1, h2, h3, h4, h5⟩ := h.ke
  have xd : SameND H (upd H kd (.dK (putK kvs (.inl (f : Int)) v))) := SameND.lock h1
  have fu : ∀ {d : Addr} {p : Project}, d ≠ kd → FilesU A.File H d p → FilesU A.File (upd H kd (.dK (putK kvs (.inl (f : Int)) v))) d p := fun {d p} ne ⟨kv, q1, q2⟩ => ⟨kv, by rw [upd_ne ne]; exact q1, q2.nd' xd⟩
  refine ⟨kvs, h1, ?_, ⟨xd _ _ (fun _ z => by cases z) h.ob, fu h.ne h.fu, ?_, ?_, h.ne⟩, fun a xs => ⟨fun e => xd _ _ (fun _ z => by cases z) e, fun e => xd _ _ (fun _ z => by cases z) e, fun _ _ e => xd _ _ (fun _ z => by cases z) e⟩⟩
  · rw [h2.len]; exact lt_of_nodup 10 _ h3 h4
  · refine ⟨_, insN ks f, upd_same, h2.put f v, insN_nodup h3, fun g hg => ?_, fun g hg => ?_⟩
    · rcases insN_mem.mp hg with q | q
      · exact h4 g q
      · rw [q]; exact hf
    · rw [hr g hg, valV_put]
      by_cases c : g = f
      · refine .inr ⟨v, k, by rw [if_pos (by rw [c])], by rw [if_pos c], hv.nd xd⟩
      · rw [if_neg c, if_neg fun z => c (by have := Sum.inl.inj z; omega)]
        exact (h5 g hg).imp_right fun ⟨v', k', q1, q2, q3⟩ => ⟨v', k', q1, q2, q3.nd xd⟩
  · obtain ⟨vs, q1, q2⟩ := h.be
    exact ⟨vs, xd _ _ (fun _ z => by cases z) q1, Paired.mapP q2 fun _ _ ⟨d, e1, e2, e3⟩ => ⟨d, e1, e2, fu e2 e3⟩⟩
def sp_read (A : Ad) : Sp := fun vs H Q _ => ∃ (pa : Addr) (f : Nat) (s : State), vs = [.ref pa, .int (f : Int)] ∧ Vbjbaj.doesExist s.project f = true ∧ PjAt A H pa s ∧
  ∀ H' r, SameL H H' → PjAt A H' pa { s with readings := Vbjbaj.noteAll s.project s.readings [f] } → H' r = some (.lst (rV [if (Vbjbaj.pendingOf s.project s.readings).contains f = true then 1 else 0])) → Q (.ref r) H'
theorem ok_read (T : Txt K mg A) (M_pending : MCal P w K mg base CX0 7 A.Project "pending" ["self", "files"] (sp_pending A)) (C_key : Cal P w K mg base CX0 6 "key" ["files", "number"] (sp_key A)) {f : Addr} {fd : FuncData} (F : Fun K "read" "read" s_read f fd) : FnOk P w K mg base CX0 8 f fd ["project", "number"] (sp_read A) := by
  refine F.ok sc_read (fun vs H Q E h => by obtain ⟨pa, f, s, rfl, _⟩ := h; rfl) (fun cdv A' outer s H vs Q E hr h => ?_)
  have hu := hu_of hr
  refine ⟨_, (pss_cons (ps_set (i := 2) sc_read.nd rfl (Or.inl rfl) (pe_cmpR op_in_seq (pv 1) (pe_mcal M_pending T.clP (pv 0) (hr.mono (by decide)) pass0 (pa_cons (pe_fld (pv 0) rfl) pa_nil)) (by rfl)))
(pss_cons (ps_dput hu (pe_fld (pv 0) rfl) (pv 1) (pe_cal C_key (hr.mono (by decide)) pass0 (pa_cons (pe_fld (pv 0) rfl) (pa_cons (pv 1) pa_nil))) rfl)
(pss_one (ps_ret (pe_lst (pa_cons (pe_ifExp (pt_val (pv 2)) pe_int pe_int) pa_nil)))))), ?_⟩
  obtain ⟨pa, f, s, rfl, hf, ⟨ok, dx, df, kd, bl, pj⟩, k⟩ := h
  obtain ⟨x, hx⟩ := doesExist_iff.mp hf
  have hk := key_some hx
  refine ⟨_, rfl, _, rfl, pa, dx, _, rfl, pj.ob, projF_none (by decide +kernel) (by decide +kernel) (by decide +kernel) (by decide +kernel) _ _ _ _, _, rfl, pa, A.Project, dx, _, _, rfl, pj.ob, T.clP, T.nP_files, projF_files _ _ _ _, pa, df, dx, df, kd, bl, s.tokens, s.tokens, s.project, s.readings, rfl, pj.ob, pj.ke, ok.pw, pj.fu.at_, fun H1 q s1 _ e1 => ?_⟩
  refine ⟨q, _, rfl, .inl (SqL.of e1), rfl, nV_flat _, ?_⟩
  refine ⟨_, rfl, pa, A.Project, dx, _, _, rfl, s1 _ _ pj.ob, T.clP, T.nP_files, projF_files _ _ _ _, _, rfl, df, f, s.tokens, s.project, _, rfl, hk, ok.pw, pj.fu.at_.same s1, fun H2 r2 s2 kv2 => ?_⟩
  have s12 := s1.trans s2
  obtain ⟨kvs, hkd, lk, pj', sl⟩ := (pj.same s12).read (ok.pw.lt hf) kv2 (r' := Vbjbaj.noteAll s.project s.readings [f]) fun g hg => by
    rw [noteAll_at _ _ _ (by rw [ok.rl]; exact hg)]
    by_cases c : g = f
    · subst c; rw [if_pos (by simp), if_pos rfl, hk]
    · rw [if_neg (by simpa using c), if_neg c]
  refine ⟨_, rfl, pa, A.Project, dx, _, _, rfl, s12 _ _ pj.ob, T.clP, T.nP_kept, projF_kept _ _ _ _, _, rfl, kd, _, rfl, DPut.k (k := .inl (f : Int)) hkd (small1000 (by omega)), ?_⟩
  have st' : StOk { s with readings := Vbjbaj.noteAll s.project s.readings [f] } := ⟨ok.pw, by rw [noteAll_len]; exact ok.rl, ok.pp, ok.pl⟩
  refine ⟨_, rfl, _, rfl, ?_⟩
  rw [inV_nV, ← List.contains_eq_mem]
  refine ite2 (fun c => ⟨by show 1 ≤ sizeLine; decide, fun r hr => ?_⟩) (fun c => ⟨by show 1 ≤ sizeLine; decide, fun r hr => ?_⟩)
  · refine k _ r (((SameL.of s12).trans sl).trans (SameL.of (Same.new hr))) (PjAt.same (Same.new hr) ⟨st', dx, df, kd, bl, pj'⟩) ?_
    have c' : (Vbjbaj.pendingOf s.project s.readings).contains f = true := c
    rw [upd_same, if_pos c']
    rfl
  · refine k _ r (((SameL.of s12).trans sl).trans (SameL.of (Same.new hr))) (PjAt.same (Same.new hr) ⟨st', dx, df, kd, bl, pj'⟩) ?_
    have c' : ¬ (Vbjbaj.pendingOf s.project s.readings).contains f = true := c
    rw [upd_same, if_neg c']
    rfl
def sp_read_all (A : Ad) : Sp := fun vs H Q _ => ∃ (pa : Addr) (s : State), vs = [.ref pa] ∧ PjAt A H pa s ∧
  ∀ H' r, SameL H H' → PjAt A H' pa { s with readings := Vbjbaj.noteAll s.project s.readings (Vbjbaj.pendingOf s.project s.readings) } → H' r = some (.lst (rV [((Vbjbaj.pendingOf s.project s.readings).length : Int)])) → Q (.ref r) H'
theorem ok_read_all (T : Txt K mg A) (M_pending : MCal P w K mg base CX0 7 A.Project "pending" ["self", "files"] (sp_pending A)) (C_key : Cal P w K mg base CX0 6 "key" ["files", "number"] (sp_key A)) {f : Addr} {fd : FuncData} (F : Fun K "read_all" "read_all" s_read_all f fd) : FnOk P w K mg base CX0 8 f fd ["project"] (sp_read_all A) := by
  refine F.ok sc_read_all (fun vs H Q E h => by obtain ⟨pa, s, rfl, _⟩ := h; rfl) (fun cdv A' outer s H vs Q E hr h => ?_)
  have hu := hu_of hr
  refine ⟨_, (pss_cons (ps_set (i := 1) sc_read_all.nd rfl (Or.inl rfl) (pe_mcal M_pending T.clP (pv 0) (hr.mono (by decide)) pass0 (pa_cons (pe_fld (pv 0) rfl) pa_nil)))
(pss_cons (ps_for PassesOwn.never rfl (pi_list (pv 1)) (pg_name (i := 2) sc_read_all.nd rfl (Or.inl rfl)) (pss_one (ps_dput hu (pe_fld (pv 0) rfl) (pv 2) (pe_cal C_key (hr.mono (by decide)) pass0 (pa_cons (pe_fld (pv 0) rfl) (pa_cons (pv 2) pa_nil))) rfl)))
(pss_one (ps_ret (pe_lst (pa_cons (pe_callB call_len_seq (by rfl) T.b_len (by decide +kernel) (pa_cons (pv 1) pa_nil)) pa_nil)))))), ?_⟩
  obtain ⟨pa, s, rfl, ⟨ok, dx, df, kd, bl, pj⟩, k⟩ := h
  refine ⟨_, rfl, pa, dx, _, rfl, pj.ob, projF_none (by decide +kernel) (by decide +kernel) (by decide +kernel) (by decide +kernel) _ _ _ _, _, rfl, pa, A.Project, dx, _, _, rfl, pj.ob, T.clP, T.nP_files, projF_files _ _ _ _, pa, df, dx, df, kd, bl, s.tokens, s.tokens, s.project, s.readings, rfl, pj.ob, pj.ke, ok.pw, pj.fu.at_, fun H1 q s1 _ e1 => ?_⟩
  have rl := ok.rl
  have pex : ∀ g ∈ Vbjbaj.pendingOf s.project s.readings, Vbjbaj.doesExist s.project g = true := fun g hg => by
    rw [pendingOf_eq] at hg
    exact (mem_exs ok.pw).mp (List.mem_filter.mp hg).1
  generalize eL : Vbjbaj.pendingOf s.project s.readings = L at k e1 pex
  have pj1 : PjI A H1 pa dx df kd bl { s with readings := Vbjbaj.noteAll s.project s.readings (L.take 0) } := by
    have := pj.same s1
    refine ⟨this.ob, this.fu, this.ke.congr fun f hf => ?_, this.be, this.ne⟩
    show (Vbjbaj.noteAll s.project s.readings []).getD f none = _
    rw [noteAll_at _ _ _ (by omega)]
    rfl
  refine ⟨_, rfl, q, rfl, ⟨_, SqL.of e1⟩, for_list (K := K) (a := q) (xs := nV L) (fun i σ H' => ∃ x2 : Option V, σ = [some (.ref pa), some (.ref q), x2] ∧ SameL H1 H' ∧ PjI A H' pa dx df kd bl { s with readings := Vbjbaj.noteAll s.project s.readings (L.take i) }) ⟨none, rfl, SameL.of (Same.refl _), pj1⟩ (fun i σ H' _ ⟨_, _, z, _⟩ => SqL.of ((z _ _).1 e1)) ?_ ?_⟩
  · rintro i y σ H2 hy ⟨x2, rfl, sl2, pj2⟩
    obtain ⟨g, hg, rfl⟩ := nV_at hy
    have gx := pex g (List.mem_of_getElem? hg)
    obtain ⟨x, hx⟩ := doesExist_iff.mp gx
    have hk := key_some hx
    have g10 := ok.pw.lt gx
    refine ⟨_, rfl, pa, A.Project, dx, _, _, rfl, pj2.ob, T.clP, T.nP_files, projF_files _ _ _ _, _, rfl, df, g, s.tokens, s.project, _, rfl, hk, ok.pw, pj2.fu.at_, fun H3 r3 s3 kv3 => ?_⟩
    obtain ⟨kvs, hkd, lk, pj', sl⟩ := (pj2.same s3).read g10 kv3 (r' := Vbjbaj.noteAll s.project s.readings (L.take (i + 1))) fun h hh => by
      rw [noteAll_at _ _ _ (by omega)]
      show _ = if h = g then _ else (Vbjbaj.noteAll s.project s.readings (L.take i)).getD h none
      rw [noteAll_at _ _ _ (by omega), take_succ' hg]
      by_cases c : h = g
      · subst c; rw [if_pos (by simp), if_pos rfl, hk]
      · rw [if_neg c]
        have : (L.take i ++ [g]).contains h = (L.take i).contains h := by
          rw [List.contains_eq_mem, List.contains_eq_mem]
          exact decide_eq_decide.mpr (by simp [c])
        rw [this]
    refine ⟨_, rfl, pa, A.Project, dx, _, _, rfl, s3 _ _ pj2.ob, T.clP, T.nP_kept, projF_kept _ _ _ _, _, rfl, kd, _, rfl, DPut.k (k := .inl (g : Int)) hkd (small1000 (by omega)), ?_⟩
    exact ⟨_, rfl, (sl2.trans (SameL.of s3)).trans sl, pj'⟩
  · rintro σ H2 ⟨x2, rfl, sl2, pj2⟩
    rw [nV_len, List.take_length] at pj2
    have st' : StOk { s with readings := Vbjbaj.noteAll s.project s.readings L } := ⟨ok.pw, by rw [noteAll_len]; exact ok.rl, ok.pp, ok.pl⟩
    refine ⟨_, rfl, q, _, rfl, .inl (SqL.of ((sl2 _ _).1 e1)), by show 1 ≤ sizeLine; decide, fun r hr => ?_⟩
    refine k _ r (((SameL.of s1).trans sl2).trans (SameL.of (Same.new hr))) (PjAt.same (Same.new hr) ⟨st', dx, df, kd, bl, pj2⟩) ?_
    rw [upd_same, nV_len]
    rfl
end
end Sf
/-! W27: undo, of_changes. -/
namespace Sf
open PySem PySem.Spec PyProof.Rows L2
open Vbjbaj (Statement File Project State Readings)
theorem cut_init (xs : List V) (v : V) : cutV (xs ++ [v]) none (some (-1)) = xs := by
  unfold cutV
  rw [show HT.sIx (xs ++ [v]).length 0 none = 0 from rfl]
  have : HT.sIx (xs ++ [v]).length (xs ++ [v]).length (some (-1)) = xs.length := by
    show (if (-1 : Int) < 0 then ((-1 : Int) + ((xs ++ [v]).length : Int)).toNat else min (-1 : Int).toNat (xs ++ [v]).length) = xs.length
    rw [if_pos (by decide), List.length_append]
    show ((-1 : Int) + ((xs.length + 1 : Nat) : Int)).toNat = xs.length
    omega
  rw [this]
  simp
theorem paired_snoc_inv {α β : Type} {F : α → β → Prop} {m : List β} {b : β} : ∀ {l : List α}, Paired F l (m ++ [b]) → ∃ l' a, l = l' ++ [a] ∧ Paired F l' m ∧ F a b := by
  induction m with
  | nil =>
    intro l h
    cases h with
    | cons h t =>
      cases t
      exact ⟨[], _, rfl, .nil, h⟩
  | cons x m ih =>
    intro l h
    cases h with
    | cons h t =>
      obtain ⟨l', a, e, h1, h2⟩ := ih t
      exact ⟨_ :: l', a, by rw [e]; rfl, .cons h h1, h2⟩
theorem pending_len {p : Project} {r : Readings} : (Vbjbaj.pendingOf p r).length ≤ 10 := by
  rw [pendingOf_eq]
  exact Nat.le_trans (List.length_filter_le _ _) (exs_len p)
section
variable {P : Program} {w : World} {K : PySem.W.Frag} {mg : Str → Option Value} {base : Heap} {A : Ad}
def sp_undo (A : Ad) : Sp := fun vs H Q E => ∃ (pa : Addr) (s : State), vs = [.ref pa] ∧ PjAt A H pa s ∧ (s.past = [] → Fails A H (-5) E) ∧
  (∀ p rest, s.past = p :: rest → ∀ H' r, SameL H H' → PjAt A H' pa { s with project := p, past := rest } → H' r = some (.lst (rV (Vbjbaj.counted (Vbjbaj.pendingOf p s.readings)))) → Q (.ref r) H')
theorem ok_undo (T : Txt K mg A) (C_need : Cal P w K mg base (L2.CX P w) 3 "need" ["is_right", "code"] (sp_need A)) (M_pending : MCal P w K mg base CX0 7 A.Project "pending" ["self", "files"] (sp_pending A)) (C_listed : Cal P w K mg base CX0 1 "listed" ["some"] (sp_listed K)) {f : Addr} {fd : FuncData} (F : Fun K "undo" "undo" s_undo f fd) : FnOk P w K mg base (L2.CX P w) 8 f fd ["project"] (sp_undo A) := by
  refine F.okX sc_undo (fun vs H Q E h => by obtain ⟨pa, s, rfl, _⟩ := h; rfl) (fun cdv A' outer s H vs Q E hr h => ?_)
  refine ⟨_, (pss_cons (ps_expr (pe_cal C_need (hr.mono (by decide)) (passes_call (takes_of rfl rfl rfl rfl) (fun _ _ _ _ h => h)) (pa_cons (pe_cmpR op_gt (pe_callB call_len_seq (by rfl) T.b_len (by decide +kernel) (pa_cons (pe_fld (pv 0) rfl) pa_nil)) pe_int (nomark _)) (pa_cons (pe_un un_neg pe_int) pa_nil))))
(pss_cons (ps_asg (pe_tup (pa_cons (pe_ix ix_list (pe_fld (pv 0) rfl) (pe_un un_neg pe_int) (fun _ _ => rfl)) (pa_cons (pe_slice sl_list (pe_fld (pv 0) rfl) po_none (po_some (pe_un un_neg pe_int))) pa_nil))) (pg_tup rfl (pgs_cons (pg_fld (pv 0)) (pgs_cons (pg_fld (pv 0)) pgs_nil))))
(pss_one (ps_ret (pe_cal C_listed (hr.mono (by decide)) pass0 (pa_cons (pe_mcal M_pending T.clP (pv 0) (hr.mono (by decide)) pass0 (pa_cons (pe_fld (pv 0) rfl) pa_nil)) pa_nil)))))), ?_⟩
  obtain ⟨pa, s, rfl, ⟨ok, dx, df, kd, bl, pj⟩, kf, k⟩ := h
  obtain ⟨vs, hvs, rvs⟩ := pj.be
  have lvs : vs.length = s.past.length := by rw [Paired.len rvs, List.length_reverse]
  refine ⟨_, rfl, pa, A.Project, dx, _, _, rfl, pj.ob, T.clP, T.nP_before, projF_before _ _ _ _, bl, _, rfl, .inl (SqL.of hvs), _, _, rfl, rfl, _, rfl, _, _, rfl, ?_, ?_⟩
  case refine_2 =>
    intro hn
    refine kf ?_
    have := of_decide_eq_false hn
    rw [lvs] at this
    exact List.length_eq_zero_iff.mp (by omega)
  intro y1
  have hpos := of_decide_eq_true y1
  rw [lvs] at hpos
  cases ep : s.past with
  | nil => rw [ep] at hpos; simp at hpos
  | cons p rest =>
    have k := k p rest ep
    rw [ep, List.reverse_cons] at rvs
    obtain ⟨vs', v, rfl, rvs', ⟨d, rfl, nd, fu⟩⟩ := paired_snoc_inv rvs
    refine ⟨_, rfl, pa, A.Project, dx, _, _, rfl, pj.ob, T.clP, T.nP_before, projF_before _ _ _ _, _, rfl, bl, _, _, _, rfl, rfl, SqL.of hvs, atI_last _ _, ?_⟩
    refine ⟨_, rfl, pa, A.Project, dx, _, _, rfl, pj.ob, T.clP, T.nP_before, projF_before _ _ _ _, _, rfl, _, rfl, bl, _, rfl, SqL.of hvs, fun q hq => ?_⟩
    have s1 : Same H (upd H q (.lst (cutV (vs' ++ [V.ref d]) none (some (-1))))) := Same.new hq
    have e1 : upd H q (.lst (cutV (vs' ++ [V.ref d]) none (some (-1)))) q = some (.lst vs') := by rw [upd_same, cut_init]
    refine ⟨by show 2 ≤ sizeLine; decide, fun q2 hq2 => ?_⟩
    have s2 := s1.trans (Same.new (o := .tup [.ref d, .ref q]) hq2)
    have e2 := (Same.new (o := .tup [.ref d, .ref q]) hq2) _ _ e1
    refine ⟨q2, _, rfl, SqT.of upd_same, rfl, _, _, rfl, ?_⟩
    generalize upd (upd H q (.lst (cutV (vs' ++ [V.ref d]) none (some (-1))))) q2 (.tup [.ref d, .ref q]) = H3 at s2 e2
    have ob3 := s2 _ _ pj.ob
    refine ⟨_, rfl, pa, A.Project, dx, _, rfl, ob3, T.clP, T.nP_files, (by show 4 < 1000; decide), ?_⟩
    rw [put_files]
    refine ⟨_, _, rfl, _, rfl, pa, A.Project, dx, _, rfl, upd_same, T.clP, T.nP_before, (by show 4 < 1000; decide), ?_⟩
    rw [put_before]
    have np : SameNP H3 (upd (upd H3 pa (.ins A.Project dx (projF s.tokens d kd bl))) pa (.ins A.Project dx (projF s.tokens d kd q))) := fun b o no e => by
      have : b ≠ pa := fun z => by
        rw [z, ob3] at e
        have := no _ _ _ (Option.some.inj e).symm
        cases this
      rw [upd_ne this, upd_ne this]
      exact e
    have ob4 : upd (upd H3 pa (.ins A.Project dx (projF s.tokens d kd bl))) pa (.ins A.Project dx (projF s.tokens d kd q)) pa = some (.ins A.Project dx (projF s.tokens d kd q)) := upd_same
    generalize upd (upd H3 pa (.ins A.Project dx (projF s.tokens d kd bl))) pa (.ins A.Project dx (projF s.tokens d kd q)) = H4 at np ob4
    have st' : StOk { s with project := p, past := rest } := ⟨ok.pp p (by rw [ep]; simp), ok.rl, fun q hq => ok.pp q (by rw [ep]; simp [hq]), by have := ok.pl; rw [ep] at this; simp at this; show rest.length ≤ 20; omega⟩
    have pj' : PjI A H4 pa dx d kd q { s with project := p, past := rest } := by
      refine ⟨ob4, (fu.same s2).np np, (pj.ke.same s2).np np, ?_, nd⟩
      refine Bef.np np ⟨_, e2, ?_⟩
      exact Paired.mapP rvs' fun _ _ ⟨d, h1, h2, h3⟩ => ⟨d, h1, h2, h3.same s2⟩
    have sl : SameL H H4 := (SameL.of s2).trans fun a xs => ⟨fun e => np _ _ (fun _ _ _ z => by cases z) e, fun e => np _ _ (fun _ _ _ z => by cases z) e, fun _ _ e => np _ _ (fun _ _ _ z => by cases z) e⟩
    refine ⟨rfl, ?_⟩
    refine ⟨_, rfl, pa, dx, _, rfl, ob4, projF_none (by decide +kernel) (by decide +kernel) (by decide +kernel) (by decide +kernel) _ _ _ _, _, rfl, pa, A.Project, dx, _, _, rfl, ob4, T.clP, T.nP_files, projF_files _ _ _ _, pa, d, dx, d, kd, q, s.tokens, s.tokens, p, s.readings, rfl, ob4, pj'.ke, st'.pw, pj'.fu.at_, fun H5 q5 s5 _ e5 => ?_⟩
    have lp := pending_len (p := p) (r := s.readings)
    exact ⟨q5, _, rfl, .inl (SqL.of e5), by omega, fun H6 r6 s6 _ e6 => k H6 r6 (sl.trans (SameL.of (s5.trans s6))) (PjAt.same (s5.trans s6) ⟨st', _, _, _, _, pj'⟩) e6⟩
/-- of_changes: word 1, 2, 13, 14 -/
def sp_of_changes (A : Ad) : Sp := fun vs H Q E => ∃ (pa na ra : Addr) (wd : Nat) (f : Nat) (ns : List Int) (s : State), vs = [.ref pa, .int (wd : Int), .ref na, .ref ra] ∧ f < 10 ∧ PjAt A H pa s ∧ H na = some (.lst (rV ((f : Int) :: ns))) ∧
  (((wd = 2 ∨ wd = 14) ∧ Vbjbaj.doesExist s.project f = true ∧ ∀ H' r s', SameL H H' → s' = (if wd = 2 then { s with project := Vbjbaj.put s.project f none, past := (s.project :: s.past).take Vbjbaj.maxPast } else s) → PjAt A H' pa s' → H' r = some (.lst (rV (Vbjbaj.counted (Vbjbaj.pendingOf (Vbjbaj.put s.project f none) s.readings)))) → Q (.ref r) H') ∨
   ((wd = 1 ∨ wd = 13) ∧ ∃ im st tx, RowsOf H ra im st tx ∧ (Vbjbaj.fileFrom s.tokens im st tx = none → Fails A H (-1) E) ∧ ∀ x, Vbjbaj.fileFrom s.tokens im st tx = some x → ∀ H' r s', SameL H H' → s' = (if wd = 1 then { s with project := Vbjbaj.put s.project f (some x), past := (s.project :: s.past).take Vbjbaj.maxPast } else s) → PjAt A H' pa s' → H' r = some (.lst (rV (Vbjbaj.counted (Vbjbaj.pendingOf (Vbjbaj.put s.project f (some x)) s.readings)))) → Q (.ref r) H'))
theorem ok_of_changes (T : Txt K mg A) (C_with_file : Cal P w K mg base (L2.CX P w) 5 "with_file" ["project", "number", "rows"] (sp_with_file A)) (C_without_file : Cal P w K mg base CX0 1 "without_file" ["project", "number"] (sp_without_file A)) (M_change : MCal P w K mg base CX0 1 A.Project "change" ["self", "files"] (sp_change A)) (M_pending : MCal P w K mg base CX0 7 A.Project "pending" ["self", "files"] (sp_pending A)) (C_listed : Cal P w K mg base CX0 1 "listed" ["some"] (sp_listed K)) {f : Addr} {fd : FuncData} (F : Fun K "of_changes" "of_changes" s_of_changes f fd) : FnOk P w K mg base (L2.CX P w) 8 f fd ["project", "word", "numbers", "rows"] (sp_of_changes A) := by
  refine F.okX sc_of_changes (fun vs H Q E h => by obtain ⟨pa, na, ra, wd, f, ns, s, rfl, _⟩ := h; rfl) (fun cdv A' outer s H vs Q E hr h => ?_)
  refine ⟨_, (pss_cons (ps_set (i := 4) sc_of_changes.nd rfl (Or.inl rfl) (pe_ifExp (pt_cmpR op_in_seq (pv 1) (pe_tup (pa_cons pe_int (pa_cons pe_int pa_nil))) (by rfl)) (pe_cal C_without_file (hr.mono (by decide)) pass0 (pa_cons (pv 0) (pa_cons (pe_ix ix_list (pv 2) pe_int (fun _ _ => rfl)) pa_nil))) (pe_cal C_with_file (hr.mono (by decide)) (passes_call (takes_of rfl rfl rfl rfl) (fun _ _ _ _ h => h)) (pa_cons (pv 0) (pa_cons (pe_ix ix_list (pv 2) pe_int (fun _ _ => rfl)) (pa_cons (pv 3) pa_nil))))))
(pss_cons (ps_if (pt_cmpR op_le (pv 1) pe_int (nomark _)) (pss_one (ps_expr (pe_mcal M_change T.clP (pv 0) (hr.mono (by decide)) pass0 (pa_cons (pv 4) pa_nil)))) pss_nil)
(pss_one (ps_ret (pe_cal C_listed (hr.mono (by decide)) pass0 (pa_cons (pe_mcal M_pending T.clP (pv 0) (hr.mono (by decide)) pass0 (pa_cons (pv 4) pa_nil)) pa_nil)))))), ?_⟩
  obtain ⟨pa, na, ra, wd, f, ns, s, rfl, hf, pj0, hna, k⟩ := h
  have at0 : atI (rV ((f : Int) :: ns)) 0 = some (.int (f : Int)) := atI_nat (j := 0) rfl
  refine ⟨_, rfl, by show 2 ≤ sizeLine; decide, fun q0 hq0 => ?_⟩
  have s0 : Same H (upd H q0 (.tup [.int 2, .int 14])) := Same.new hq0
  refine ⟨q0, _, rfl, .inr (SqT.of upd_same), rfl, rfl, _, rfl, ?_⟩
  have ein : inV (.int (wd : Int)) [V.int 2, V.int 14] = decide (wd = 2 ∨ wd = 14) := by
    have := inV_nV wd [2, 14]
    rw [show nV [2, 14] = [V.int 2, V.int 14] from rfl] at this
    rw [this]
    exact decide_eq_decide.mpr (by simp)
  show (if inV (V.int (wd : Int)) [V.int 2, V.int 14] = true then _ else _)
  rw [ein]
  obtain ⟨ok, dx, df, kd, bl, pj⟩ := pj0
  have hkd : ∀ {r : Addr}, H r = none → r ≠ kd := fun e z => by
    obtain ⟨_, _, q, _⟩ := pj.ke
    rw [z, q] at e
    cases e
  rcases k with ⟨hw, hex, k⟩ | ⟨hw, im, st, tx, ro, kf, k⟩
  · rw [decide_eq_true hw]
    refine iteT ?_
    refine ⟨_, rfl, _, rfl, na, _, 0, _, rfl, rfl, SqL.of (s0 _ _ hna), at0, pa, f, s, rfl, hex, PjAt.same s0 ⟨ok, dx, df, kd, bl, pj⟩, fun H1 r t1 hr0 fu => ?_⟩
    have s1 := s0.trans t1
    have nk := hkd (s0.free hr0)
    have pw' : PWf s.tokens (Vbjbaj.put s.project f none) := ok.pw.put fun x h => by cases h
    have lp := pending_len (p := Vbjbaj.put s.project f none) (r := s.readings)
    generalize Vbjbaj.put s.project f none = p' at fu pw' k lp
    rcases hw with rfl | rfl
    · refine ⟨_, rfl, _, _, rfl, rfl, _, rfl, ?_⟩
      refine iteT ?_
      refine ⟨_, rfl, pa, dx, _, rfl, s1 _ _ pj.ob, projF_none (by decide +kernel) (by decide +kernel) (by decide +kernel) (by decide +kernel) _ _ _ _, _, rfl, pa, r, dx, df, kd, bl, s, p', rfl, ok, pj.same s1, pw', fu, nk, fun H2 bl' sl pj2 pi2 => ?_⟩
      refine ⟨_, rfl, pa, dx, _, rfl, pi2.ob, projF_none (by decide +kernel) (by decide +kernel) (by decide +kernel) (by decide +kernel) _ _ _ _, _, rfl, pa, r, dx, r, kd, bl', s.tokens, s.tokens, p', s.readings, rfl, pi2.ob, pi2.ke, pw', pi2.fu.at_, fun H5 q5 s5 _ e5 => ?_⟩
      exact ⟨q5, _, rfl, .inl (SqL.of e5), by omega, fun H6 r6 s6 _ e6 => k H6 r6 _ (((SameL.of s1).trans sl).trans (SameL.of (s5.trans s6))) rfl (PjAt.same (s5.trans s6) pj2) e6⟩
    · refine ⟨_, rfl, _, _, rfl, rfl, _, rfl, ?_⟩
      refine iteF ?_
      refine ⟨_, rfl, pa, dx, _, rfl, s1 _ _ pj.ob, projF_none (by decide +kernel) (by decide +kernel) (by decide +kernel) (by decide +kernel) _ _ _ _, _, rfl, pa, r, dx, df, kd, bl, s.tokens, s.tokens, p', s.readings, rfl, s1 _ _ pj.ob, pj.ke.same s1, pw', fu.at_, fun H5 q5 s5 _ e5 => ?_⟩
      exact ⟨q5, _, rfl, .inl (SqL.of e5), by omega, fun H6 r6 s6 _ e6 => k H6 r6 _ (SameL.of ((s1.trans s5).trans s6)) rfl (PjAt.same ((s1.trans s5).trans s6) ⟨ok, _, _, _, _, pj⟩) e6⟩
  · have hw2 : ¬ (wd = 2 ∨ wd = 14) := by omega
    rw [decide_eq_false hw2]
    refine iteF ?_
    refine ⟨_, rfl, _, rfl, na, _, 0, _, rfl, rfl, SqL.of (s0 _ _ hna), at0, _, rfl, pa, ra, f, s, im, st, tx, rfl, hf, PjAt.same s0 ⟨ok, dx, df, kd, bl, pj⟩, ro.same s0, fun h => (kf h).after s0, fun x hx H1 r t1 hr0 fu => ?_⟩
    have k := k x hx
    have s1 := s0.trans t1
    have nk := hkd (s0.free hr0)
    have pw' : PWf s.tokens (Vbjbaj.put s.project f (some x)) := ok.pw.put fun y h => by cases h; exact isFile_of hx
    have lp := pending_len (p := Vbjbaj.put s.project f (some x)) (r := s.readings)
    generalize Vbjbaj.put s.project f (some x) = p' at fu pw' k lp
    rcases hw with rfl | rfl
    · refine ⟨_, rfl, _, _, rfl, rfl, _, rfl, ?_⟩
      refine iteT ?_
      refine ⟨_, rfl, pa, dx, _, rfl, s1 _ _ pj.ob, projF_none (by decide +kernel) (by decide +kernel) (by decide +kernel) (by decide +kernel) _ _ _ _, _, rfl, pa, r, dx, df, kd, bl, s, p', rfl, ok, pj.same s1, pw', fu, nk, fun H2 bl' sl pj2 pi2 => ?_⟩
      refine ⟨_, rfl, pa, dx, _, rfl, pi2.ob, projF_none (by decide +kernel) (by decide +kernel) (by decide +kernel) (by decide +kernel) _ _ _ _, _, rfl, pa, r, dx, r, kd, bl', s.tokens, s.tokens, p', s.readings, rfl, pi2.ob, pi2.ke, pw', pi2.fu.at_, fun H5 q5 s5 _ e5 => ?_⟩
      exact ⟨q5, _, rfl, .inl (SqL.of e5), by omega, fun H6 r6 s6 _ e6 => k H6 r6 _ (((SameL.of s1).trans sl).trans (SameL.of (s5.trans s6))) rfl (PjAt.same (s5.trans s6) pj2) e6⟩
    · refine ⟨_, rfl, _, _, rfl, rfl, _, rfl, ?_⟩
      refine iteF ?_
      refine ⟨_, rfl, pa, dx, _, rfl, s1 _ _ pj.ob, projF_none (by decide +kernel) (by decide +kernel) (by decide +kernel) (by decide +kernel) _ _ _ _, _, rfl, pa, r, dx, df, kd, bl, s.tokens, s.tokens, p', s.readings, rfl, s1 _ _ pj.ob, pj.ke.same s1, pw', fu.at_, fun H5 q5 s5 _ e5 => ?_⟩
      exact ⟨q5, _, rfl, .inl (SqL.of e5), by omega, fun H6 r6 s6 _ e6 => k H6 r6 _ (SameL.of ((s1.trans s5).trans s6)) rfl (PjAt.same ((s1.trans s5).trans s6) ⟨ok, _, _, _, _, pj⟩) e6⟩
end
end Sf
/-! W28: of_file. -/
namespace Sf
open PySem PySem.Spec PyProof.Rows L2
open Vbjbaj (Statement File Project State Readings)
def enc : Vbjbaj.Call → Nat × List Int × List (List Int)
  | .begin_ t => (0, [t], [])
  | .file n a b c => (1, [n], [a, b, c])
  | .remove n => (2, [n], [])
  | .visible n => (3, [n], [])
  | .seers n => (4, [n], [])
  | .path f g => (5, [f, g], [])
  | .statements n => (6, [n], [])
  | .relevant n => (7, [n], [])
  | .source f a b c => (8, [f, a, b, c], [])
  | .pending => (9, [], [])
  | .read n => (10, [n], [])
  | .readAll => (11, [], [])
  | .reasons n => (12, [n], [])
  | .would n a b c => (13, [n], [a, b, c])
  | .wouldRemove n => (14, [n], [])
  | .needed n => (15, [n], [])
  | .touched f a => (16, [f, a], [])
  | .rings => (17, [], [])
  | .cut f g => (18, [f, g], [])
  | .checkCut f g l => (19, [f, g], [l])
  | .undo => (20, [], [])
  | .summary => (21, [], [])
def fileCall : Vbjbaj.Call → Bool
  | .visible _ => true
  | .seers _ => true
  | .path _ _ => true
  | .statements _ => true
  | .relevant _ => true
  | .source _ _ _ _ => true
  | .read _ => true
  | .reasons _ => true
  | .needed _ => true
  | .touched _ _ => true
  | .cut _ _ => true
  | .checkCut _ _ _ => true
  | _ => false
def isSeers : Vbjbaj.Call → Bool
  | .seers _ => true
  | _ => false
def RsOk (s : State) : Prop := ∀ f k, s.readings.getD f none = some k → k.statements.length ≤ 120
def RowsH (H : Hp) (ra : Addr) (rows : List (List Int)) : Prop := ∃ as : List Addr, H ra = some (.lst (as.map V.ref)) ∧ Paired (fun a r => H a = some (.lst (rV r))) as rows ∧ ∀ r ∈ rows, r.length ≤ 10000000
theorem RowsH.same {H H' : Hp} {ra : Addr} {rows : List (List Int)} (e : Same H H') (h : RowsH H ra rows) : RowsH H' ra rows := by
  obtain ⟨as, h1, h2, h3⟩ := h
  exact ⟨as, e _ _ h1, Paired.mapP h2 fun _ _ q => e _ _ q, h3⟩
def Ans (A : Ad) (H : Hp) (pa : Addr) (s : State) (call : Vbjbaj.Call) (Q : VK) (E : XK) : Prop :=
  (∀ c, c ≠ 0 → Vbjbaj.step s call = (s, [c]) → Fails A H c E) ∧ (∀ s' l, Vbjbaj.step s call = (s', 0 :: l) → ∀ H' r, SameL H H' → PjAt A H' pa s' → H' r = some (.lst (rV l)) → Q (.ref r) H')
theorem num_nat {f : Nat} (h : f < 10) : Vbjbaj.isNumber (f : Int) = true := num_iff.mpr ⟨by omega, by omega⟩
theorem withFile_eq {s : State} {f : Nat} {x : File} (h0 : s.tokens ≠ 0) (hf : f < 10) (hx : Vbjbaj.fileAt s.project f = some x) (F : Nat → File → List Int) : Vbjbaj.withFile s (f : Int) F = (s, F f x) := by
  unfold Vbjbaj.withFile
  rw [if_neg h0, if_neg (by rw [num_nat hf]; decide), Int.toNat_natCast, hx]
theorem wf_step {s : State} {f : Nat} {x : File} {call : Vbjbaj.Call} {F : Nat → File → List Int} (e : Vbjbaj.step s call = Vbjbaj.withFile s (f : Int) F) (h0 : s.tokens ≠ 0) (hf : f < 10) (hx : Vbjbaj.fileAt s.project f = some x) : Vbjbaj.step s call = (s, F f x) := e.trans (withFile_eq h0 hf hx F)
theorem needed_small {t : Nat} {p : Project} (w : PWf t p) (f : Nat) : (Vbjbaj.neededImports p f).length ≤ 1000 := by
  have h10 := w.graph.size f
  unfold Vbjbaj.neededImports
  simp only
  cases e : (List.range ((Vbjbaj.importsOf p f).length + 1)).findSome? (fun k => (Vbjbaj.partsOf k (Vbjbaj.importsOf p f)).find? fun l => (List.range Vbjbaj.maxFiles).all fun g => Vbjbaj.keyOf (Vbjbaj.withImports p f l) g == ((List.range Vbjbaj.maxFiles).map (Vbjbaj.keyOf p)).getD g none) with
  | none => show (Vbjbaj.importsOf p f).length ≤ 1000; omega
  | some l =>
    obtain ⟨k, _, hk⟩ := List.exists_of_findSome?_eq_some e
    have := (parts_sub _ _ _ (List.mem_of_find?_eq_some hk)).1.length_le
    show l.length ≤ 1000
    omega
theorem stm_eq {t : Nat} (ht : t ≤ 20) (a b c : Int) : (Vbjbaj.inRange a 0 100 && (Vbjbaj.inRange b 0 100 && (Vbjbaj.inRange c 0 100 && Vbjbaj.isStatement t ⟨a.toNat, b.toNat, c.toNat⟩))) = isStI t (a, b, c) := by
  by_cases h1 : 0 ≤ a
  · by_cases h2 : 0 ≤ b
    · by_cases h3 : 0 ≤ c
      · have e := isSt_eq (t := t) (x := (a, b, c)) h1 h2 h3
        rw [show (⟨a.toNat, b.toNat, c.toNat⟩ : Statement) = toSt (a, b, c) from rfl, e]
        cases q : isStI t (a, b, c) with
        | false => simp
        | true =>
          unfold isStI at q
          simp only [Bool.and_eq_true, decide_eq_true_eq] at q
          obtain ⟨q1, q2, q3⟩ := q
          have q4 := q3.2
          unfold Vbjbaj.inRange
          simp only [Bool.and_true, Bool.and_eq_true, decide_eq_true_eq]
          split at q4 <;> omega
      · have : Vbjbaj.inRange c 0 100 = false := by unfold Vbjbaj.inRange; rw [decide_eq_false h3]; rfl
        rw [this, Bool.false_and, Bool.and_false, Bool.and_false]
        unfold isStI
        simp [h3]
    · have : Vbjbaj.inRange b 0 100 = false := by unfold Vbjbaj.inRange; rw [decide_eq_false h2]; rfl
      rw [this, Bool.false_and, Bool.and_false]
      unfold isStI
      simp [h2]
  · have : Vbjbaj.inRange a 0 100 = false := by unfold Vbjbaj.inRange; rw [decide_eq_false h1]; rfl
    rw [this, Bool.false_and]
    unfold isStI
    simp [h1]
section
variable {P : Program} {w : World} {K : PySem.W.Frag} {mg : Str → Option Value} {base : Heap} {A : Ad}
def sp_of_file (A : Ad) : Sp := fun vs H Q E => ∃ (pa na ra : Addr) (s : State) (f : Nat) (call : Vbjbaj.Call), vs = [.ref pa, .int ((enc call).1 : Int), .ref na, .ref ra] ∧ H na = some (.lst (rV (enc call).2.1)) ∧ (enc call).2.1.head? = some (f : Int) ∧ f < 10 ∧ PjAt A H pa s ∧ RsOk s ∧ s.tokens ≠ 0 ∧ fileCall call = true ∧
  (isSeers call = true ∨ Vbjbaj.doesExist s.project f = true) ∧ RowsH H ra (enc call).2.2 ∧ Ans A H pa s call Q E
theorem ok_of_file (T : Txt K mg A)
    (C_visible : Cal P w K mg base CX0 3 "visible" ["project", "number"] (sp_visible A)) (C_seers : Cal P w K mg base CX0 3 "seers" ["project", "number"] (sp_seers A))
    (C_path : Cal P w K mg base (L2.CX P w) 4 "path" ["project", "first", "second"] (sp_path A)) (C_statements_seen : Cal P w K mg base CX0 4 "statements_seen" ["files", "number"] (sp_statements_seen A)) (C_flat : Cal P w K mg base CX0 1 "flat" ["statements"] (sp_flat K))
    (C_relevant : Cal P w K mg base CX0 6 "relevant" ["project", "number"] (sp_relevant A)) (C_source : Cal P w K mg base (L2.CX P w) 4 "source" ["project", "number", "statement"] (sp_source K A))
    (C_read : Cal P w K mg base CX0 8 "read" ["project", "number"] (sp_read A)) (C_reasons : Cal P w K mg base CX0 7 "reasons" ["project", "number"] (sp_reasons A)) (C_listed : Cal P w K mg base CX0 1 "listed" ["some"] (sp_listed K)) (C_needed : Cal P w K mg base CX0 12 "needed" ["files", "number"] (sp_needed K A))
    (C_touched : Cal P w K mg base (L2.CX P w) 6 "touched" ["project", "number", "token"] (sp_touched A)) (C_cut_told : Cal P w K mg base (L2.CX P w) 5 "cut_told" ["project", "first", "second"] (sp_cut_told A)) (C_check_cut : Cal P w K mg base (L2.CX P w) 5 "check_cut" ["project", "first", "second", "row"] (sp_check_cut A))
    {f : Addr} {fd : FuncData} (F : Fun K "of_file" "of_file" s_of_file f fd) : FnOk P w K mg base (L2.CX P w) 13 f fd ["project", "word", "numbers", "rows"] (sp_of_file A) := by
  refine F.okX sc_of_file (fun vs H Q E h => by obtain ⟨pa, na, ra, s, f, call, rfl, _⟩ := h; rfl) (fun cdv A' outer s H vs Q E hr h => ?_)
  refine ⟨_, (pss_cons (ps_set (i := 4) sc_of_file.nd rfl (Or.inl rfl) (pe_ix ix_list (pv 2) pe_int (fun _ _ => rfl)))
(pss_cons (ps_if (pt_cmpR op_eq (pv 1) pe_int (nomark _)) (pss_one (ps_ret (pe_cal C_visible (hr.mono (by decide)) pass0 (pa_cons (pv 0) (pa_cons (pv 4) pa_nil))))) pss_nil)
(pss_cons (ps_if (pt_cmpR op_eq (pv 1) pe_int (nomark _)) (pss_one (ps_ret (pe_cal C_seers (hr.mono (by decide)) pass0 (pa_cons (pv 0) (pa_cons (pv 4) pa_nil))))) pss_nil)
(pss_cons (ps_if (pt_cmpR op_eq (pv 1) pe_int (nomark _)) (pss_one (ps_ret (pe_cal C_path (hr.mono (by decide)) (passes_call (takes_of rfl rfl rfl rfl) (fun _ _ _ _ h => h)) (pa_cons (pv 0) (pa_cons (pv 4) (pa_cons (pe_ix ix_list (pv 2) pe_int (fun _ _ => rfl)) pa_nil)))))) pss_nil)
(pss_cons (ps_if (pt_cmpR op_eq (pv 1) pe_int (nomark _)) (pss_one (ps_ret (pe_cal C_flat (hr.mono (by decide)) pass0 (pa_cons (pe_cal C_statements_seen (hr.mono (by decide)) pass0 (pa_cons (pe_fld (pv 0) rfl) (pa_cons (pv 4) pa_nil))) pa_nil)))) pss_nil)
(pss_cons (ps_if (pt_cmpR op_eq (pv 1) pe_int (nomark _)) (pss_one (ps_ret (pe_cal C_relevant (hr.mono (by decide)) pass0 (pa_cons (pv 0) (pa_cons (pv 4) pa_nil))))) pss_nil)
(pss_cons (ps_if (pt_cmpR op_eq (pv 1) pe_int (nomark _)) (pss_one (ps_ret (pe_cal C_source (hr.mono (by decide)) (passes_call (takes_of rfl rfl rfl rfl) (fun _ _ _ _ h => h)) (pa_cons (pv 0) (pa_cons (pv 4) (pa_cons (pe_callTy call_tuple_of (by rfl) T.b_tuple (by decide +kernel) (pa_cons (pe_slice sl_list (pv 2) (po_some pe_int) po_none) pa_nil)) pa_nil)))))) pss_nil)
(pss_cons (ps_if (pt_cmpR op_eq (pv 1) pe_int (nomark _)) (pss_one (ps_ret (pe_cal C_read (hr.mono (by decide)) pass0 (pa_cons (pv 0) (pa_cons (pv 4) pa_nil))))) pss_nil)
(pss_cons (ps_if (pt_cmpR op_eq (pv 1) pe_int (nomark _)) (pss_one (ps_ret (pe_cal C_reasons (hr.mono (by decide)) pass0 (pa_cons (pv 0) (pa_cons (pv 4) pa_nil))))) pss_nil)
(pss_cons (ps_if (pt_cmpR op_eq (pv 1) pe_int (nomark _)) (pss_one (ps_ret (pe_cal C_listed (hr.mono (by decide)) pass0 (pa_cons (pe_cal C_needed (hr.mono (by decide)) pass0 (pa_cons (pe_fld (pv 0) rfl) (pa_cons (pv 4) pa_nil))) pa_nil)))) pss_nil)
(pss_cons (ps_if (pt_cmpR op_eq (pv 1) pe_int (nomark _)) (pss_one (ps_ret (pe_cal C_touched (hr.mono (by decide)) (passes_call (takes_of rfl rfl rfl rfl) (fun _ _ _ _ h => h)) (pa_cons (pv 0) (pa_cons (pv 4) (pa_cons (pe_ix ix_list (pv 2) pe_int (fun _ _ => rfl)) pa_nil)))))) pss_nil)
(pss_cons (ps_if (pt_cmpR op_eq (pv 1) pe_int (nomark _)) (pss_one (ps_ret (pe_cal C_cut_told (hr.mono (by decide)) (passes_call (takes_of rfl rfl rfl rfl) (fun _ _ _ _ h => h)) (pa_cons (pv 0) (pa_cons (pv 4) (pa_cons (pe_ix ix_list (pv 2) pe_int (fun _ _ => rfl)) pa_nil)))))) pss_nil)
(pss_one (ps_ret (pe_cal C_check_cut (hr.mono (by decide)) (passes_call (takes_of rfl rfl rfl rfl) (fun _ _ _ _ h => h)) (pa_cons (pv 0) (pa_cons (pv 4) (pa_cons (pe_ix ix_list (pv 2) pe_int (fun _ _ => rfl)) (pa_cons (pe_ix ix_list (pv 3) pe_int (fun _ _ => rfl)) pa_nil))))))))))))))))))), ?_⟩
  obtain ⟨pa, na, ra, s, f, call, rfl, hna, hhd, hf, pj, rs, h0, hc, hex, ro, kf, k⟩ := h
  have pw := pj.1.pw
  have at0 : atI (rV (enc call).2.1) 0 = some (.int (f : Int)) := by
    refine atI_nat (j := 0) ?_
    rw [List.getElem?_map, ← List.head?_eq_getElem?, hhd]
    rfl
  refine ⟨_, rfl, na, _, 0, _, rfl, rfl, SqL.of hna, at0, ?_⟩
  cases call
  case begin_ t => exact absurd hc (by simp [fileCall])
  case file n a b c => exact absurd hc (by simp [fileCall])
  case remove n => exact absurd hc (by simp [fileCall])
  case would n a b c => exact absurd hc (by simp [fileCall])
  case wouldRemove n => exact absurd hc (by simp [fileCall])
  case pending => exact absurd hc (by simp [fileCall])
  case readAll => exact absurd hc (by simp [fileCall])
  case rings => exact absurd hc (by simp [fileCall])
  case undo => exact absurd hc (by simp [fileCall])
  case summary => exact absurd hc (by simp [fileCall])
  case visible n =>
    obtain ⟨x, hx⟩ := doesExist_iff.mp (hex.resolve_left (by simp [isSeers]))
    have hz := Option.some.inj hhd
    subst hz
    refine ⟨_, rfl, rfl, _, rfl, iteT ?_⟩
    refine ⟨_, rfl, _, rfl, pa, f, s, rfl, hf, pj, fun H' r s1 e1 => ?_⟩
    refine k s _ ((wf_step (by unfold Vbjbaj.step; rfl) h0 hf hx).trans ?_) H' r (SameL.of s1) (pj.same s1) e1
    rfl
  case seers n =>
    have hz := Option.some.inj hhd
    subst hz
    refine ⟨_, rfl, rfl, _, rfl, iteF ?_⟩
    refine ⟨_, rfl, rfl, _, rfl, iteT ?_⟩
    refine ⟨_, rfl, _, rfl, pa, f, s, rfl, pj, fun H' r s1 e1 => ?_⟩
    refine k s (Vbjbaj.counted (Vbjbaj.seers s.project f)) ?_ H' r (SameL.of s1) (pj.same s1) e1
    show (s, if s.tokens = 0 then _ else if Vbjbaj.isNumber (f : Int) = false then _ else _) = _
    rw [if_neg h0, if_neg (by rw [num_nat hf]; decide), Int.toNat_natCast]
  case path n g =>
    obtain ⟨x, hx⟩ := doesExist_iff.mp (hex.resolve_left (by simp [isSeers]))
    have hz := Option.some.inj hhd
    subst hz
    refine ⟨_, rfl, rfl, _, rfl, iteF ?_⟩
    refine ⟨_, rfl, rfl, _, rfl, iteF ?_⟩
    refine ⟨_, rfl, rfl, _, rfl, iteT ?_⟩
    refine ⟨_, rfl, _, rfl, _, rfl, na, _, 1, .int g, rfl, rfl, SqL.of hna, rfl, pa, f, g, s, rfl, hf, pj, fun hn => ?_, fun hy H' r s1 e1 => ?_⟩
    · refine kf (-1) (by decide) ((wf_step (by unfold Vbjbaj.step; rfl) h0 hf hx).trans ?_)
      rw [if_pos hn]
    · refine k s _ ((wf_step (by unfold Vbjbaj.step; rfl) h0 hf hx).trans ?_) H' r (SameL.of s1) (pj.same s1) e1
      rw [if_neg (by rw [hy]; decide)]
      unfold pathOut
      cases Vbjbaj.path s.project f g.toNat <;> rfl
  case statements n =>
    obtain ⟨x, hx⟩ := doesExist_iff.mp (hex.resolve_left (by simp [isSeers]))
    have hz := Option.some.inj hhd
    subst hz
    refine ⟨_, rfl, rfl, _, rfl, iteF ?_⟩
    refine ⟨_, rfl, rfl, _, rfl, iteF ?_⟩
    refine ⟨_, rfl, rfl, _, rfl, iteF ?_⟩
    refine ⟨_, rfl, rfl, _, rfl, iteT ?_⟩
    obtain ⟨ok, dx, df, kd, bl, pi⟩ := id pj
    have ls := statementsOf_len pw.ok f
    refine ⟨_, rfl, pa, A.Project, dx, _, _, rfl, pi.ob, T.clP, T.nP_files, projF_files _ _ _ _, _, rfl, df, f, s.tokens, s.project, rfl, hf, pw, pi.fu.at_, fun H1 r us s1 _ e1 hus => ?_⟩
    refine ⟨r, us, _, rfl, SqL.of e1, hus, by omega, fun H2 r2 s2 _ e2 => ?_⟩
    refine k s _ ((wf_step (by unfold Vbjbaj.step; rfl) h0 hf hx).trans ?_) H2 r2 (SameL.of (s1.trans s2)) (pj.same (s1.trans s2)) e2
    rfl
  case relevant n =>
    obtain ⟨x, hx⟩ := doesExist_iff.mp (hex.resolve_left (by simp [isSeers]))
    have hz := Option.some.inj hhd
    subst hz
    refine ⟨_, rfl, rfl, _, rfl, iteF ?_⟩
    refine ⟨_, rfl, rfl, _, rfl, iteF ?_⟩
    refine ⟨_, rfl, rfl, _, rfl, iteF ?_⟩
    refine ⟨_, rfl, rfl, _, rfl, iteF ?_⟩
    refine ⟨_, rfl, rfl, _, rfl, iteT ?_⟩
    refine ⟨_, rfl, _, rfl, pa, f, s, x, rfl, hx, pj, fun H' r s1 e1 => ?_⟩
    refine k s _ ((wf_step (by unfold Vbjbaj.step; rfl) h0 hf hx).trans ?_) H' r (SameL.of s1) (pj.same s1) e1
    rfl
  case source n a b c =>
    obtain ⟨x, hx⟩ := doesExist_iff.mp (hex.resolve_left (by simp [isSeers]))
    have hz := Option.some.inj hhd
    subst hz
    refine ⟨_, rfl, rfl, _, rfl, iteF ?_⟩
    refine ⟨_, rfl, rfl, _, rfl, iteF ?_⟩
    refine ⟨_, rfl, rfl, _, rfl, iteF ?_⟩
    refine ⟨_, rfl, rfl, _, rfl, iteF ?_⟩
    refine ⟨_, rfl, rfl, _, rfl, iteF ?_⟩
    refine ⟨_, rfl, rfl, _, rfl, iteT ?_⟩
    refine ⟨_, rfl, _, rfl, _, rfl, _, rfl, na, rV [(f : Int), a, b, c], rfl, SqL.of hna, fun q hq => ?_⟩
    change H q = none at hq
    have ec : cutV (rV [(f : Int), a, b, c]) (some 1) none = rV [a, b, c] := rfl
    have s1 : Same H (upd H q (.lst (cutV (rV [(f : Int), a, b, c]) (some 1) none))) := Same.new hq
    have e1 : upd H q (.lst (cutV (rV [(f : Int), a, b, c]) (some 1) none)) q = some (.lst (rV [a, b, c])) := by rw [upd_same, ec]
    generalize upd H q (.lst (cutV (rV [(f : Int), a, b, c]) (some 1) none)) = H1 at s1 e1
    refine ⟨q, _, rfl, .inl ⟨SqL.of e1, fun l hl => ?_⟩⟩
    have s2 := s1.trans (Same.new (o := .tup (rV [a, b, c])) hl)
    refine ⟨pa, l, f, (a, b, c), s, rfl, upd_same, pj.same s2, doesExist_iff.mpr ⟨x, hx⟩, fun hn => ?_, fun hy H' r s3 e3 => ?_⟩
    · refine (kf (-1) (by decide) ((wf_step (by unfold Vbjbaj.step; rfl) h0 hf hx).trans ?_)).after s2
      rw [stm_eq pw.tk, if_pos hn]
    · refine k s _ ((wf_step (by unfold Vbjbaj.step; rfl) h0 hf hx).trans ?_) H' r (SameL.of (s2.trans s3)) (pj.same (s2.trans s3)) e3
      rw [stm_eq pw.tk, if_neg (by rw [hy]; decide)]
      show (s, _) = (s, _)
      congr 1
      dsimp only
      split
      · rename_i h
        rw [show sourceOut s.project f (toSt (a, b, c)) = [0] from congrArg (fun o : Option (List Nat) => match o with | none => ([0] : List Int) | some l => 1 :: Vbjbaj.counted l) h]
      · rename_i l h
        rw [show sourceOut s.project f (toSt (a, b, c)) = 1 :: Vbjbaj.counted l from congrArg (fun o : Option (List Nat) => match o with | none => ([0] : List Int) | some l => 1 :: Vbjbaj.counted l) h]
  case read n =>
    obtain ⟨x, hx⟩ := doesExist_iff.mp (hex.resolve_left (by simp [isSeers]))
    have hz := Option.some.inj hhd
    subst hz
    refine ⟨_, rfl, rfl, _, rfl, iteF ?_⟩
    refine ⟨_, rfl, rfl, _, rfl, iteF ?_⟩
    refine ⟨_, rfl, rfl, _, rfl, iteF ?_⟩
    refine ⟨_, rfl, rfl, _, rfl, iteF ?_⟩
    refine ⟨_, rfl, rfl, _, rfl, iteF ?_⟩
    refine ⟨_, rfl, rfl, _, rfl, iteF ?_⟩
    refine ⟨_, rfl, rfl, _, rfl, iteT ?_⟩
    refine ⟨_, rfl, _, rfl, pa, f, s, rfl, doesExist_iff.mpr ⟨x, hx⟩, pj, fun H' r sl pj' e1 => ?_⟩
    refine k _ _ ?_ H' r sl pj' e1
    show (if s.tokens = 0 then _ else if Vbjbaj.isNumber (f : Int) = false then _ else if Vbjbaj.doesExist s.project (f : Int).toNat = false then _ else _) = _
    rw [if_neg h0, if_neg (by rw [num_nat hf]; decide), Int.toNat_natCast, if_neg (by rw [doesExist_iff.mpr ⟨x, hx⟩]; decide)]
  case reasons n =>
    obtain ⟨x, hx⟩ := doesExist_iff.mp (hex.resolve_left (by simp [isSeers]))
    have hz := Option.some.inj hhd
    subst hz
    refine ⟨_, rfl, rfl, _, rfl, iteF ?_⟩
    refine ⟨_, rfl, rfl, _, rfl, iteF ?_⟩
    refine ⟨_, rfl, rfl, _, rfl, iteF ?_⟩
    refine ⟨_, rfl, rfl, _, rfl, iteF ?_⟩
    refine ⟨_, rfl, rfl, _, rfl, iteF ?_⟩
    refine ⟨_, rfl, rfl, _, rfl, iteF ?_⟩
    refine ⟨_, rfl, rfl, _, rfl, iteF ?_⟩
    refine ⟨_, rfl, rfl, _, rfl, iteT ?_⟩
    refine ⟨_, rfl, _, rfl, pa, f, s, x, rfl, hx, pj, rs f, fun H' r s1 e1 => ?_⟩
    refine k s _ ((wf_step (by unfold Vbjbaj.step; rfl) h0 hf hx).trans ?_) H' r (SameL.of s1) (pj.same s1) e1
    unfold reasonsOut
    cases hr : s.readings.getD f none with
    | none => rfl
    | some kk =>
      have hk := key_some hx
      have hp : (Vbjbaj.pendingOf s.project s.readings).contains f = !decide (kk = ⟨x.text, Vbjbaj.relevantOf s.project f⟩) := by
        rw [pendingOf_eq, List.contains_eq_mem]
        have m : f ∈ exs s.project := (mem_exs pw).mpr (doesExist_iff.mpr ⟨x, hx⟩)
        by_cases c : kk = ⟨x.text, Vbjbaj.relevantOf s.project f⟩
        · rw [decide_eq_true c]
          refine decide_eq_false fun z => ?_
          have := (List.mem_filter.mp z).2
          rw [hk, hr, c] at this
          simp at this
        · rw [decide_eq_false c]
          refine decide_eq_true (List.mem_filter.mpr ⟨m, ?_⟩)
          rw [hk, hr, bne_iff_ne]
          exact fun z => c (Option.some.inj z).symm
      show (s, if (Vbjbaj.pendingOf s.project s.readings).contains f = false then _ else _) = _
      rw [hp]
      by_cases c : kk = ⟨x.text, Vbjbaj.relevantOf s.project f⟩
      · rw [decide_eq_true c, if_pos (show (!true) = false from rfl)]
        simp only [if_pos c]
      · rw [decide_eq_false c, if_neg (by decide)]
        simp only [if_neg c]
  case needed n =>
    obtain ⟨x, hx⟩ := doesExist_iff.mp (hex.resolve_left (by simp [isSeers]))
    have hz := Option.some.inj hhd
    subst hz
    refine ⟨_, rfl, rfl, _, rfl, iteF ?_⟩
    refine ⟨_, rfl, rfl, _, rfl, iteF ?_⟩
    refine ⟨_, rfl, rfl, _, rfl, iteF ?_⟩
    refine ⟨_, rfl, rfl, _, rfl, iteF ?_⟩
    refine ⟨_, rfl, rfl, _, rfl, iteF ?_⟩
    refine ⟨_, rfl, rfl, _, rfl, iteF ?_⟩
    refine ⟨_, rfl, rfl, _, rfl, iteF ?_⟩
    refine ⟨_, rfl, rfl, _, rfl, iteF ?_⟩
    refine ⟨_, rfl, rfl, _, rfl, iteT ?_⟩
    obtain ⟨ok, dx, df, kd, bl, pi⟩ := id pj
    refine ⟨_, rfl, pa, A.Project, dx, _, _, rfl, pi.ob, T.clP, T.nP_files, projF_files _ _ _ _, _, rfl, df, f, s.tokens, s.project, x, rfl, hx, pw, pi.fu.at_, fun H1 b s1 e1 => ?_⟩
    refine ⟨b, _, rfl, .inr (SqT.of e1), needed_small pw f, fun H2 r2 s2 _ e2 => ?_⟩
    refine k s _ ((wf_step (by unfold Vbjbaj.step; rfl) h0 hf hx).trans ?_) H2 r2 (SameL.of (s1.trans s2)) (pj.same (s1.trans s2)) e2
    rfl
  case touched n a =>
    obtain ⟨x, hx⟩ := doesExist_iff.mp (hex.resolve_left (by simp [isSeers]))
    have hz := Option.some.inj hhd
    subst hz
    refine ⟨_, rfl, rfl, _, rfl, iteF ?_⟩
    refine ⟨_, rfl, rfl, _, rfl, iteF ?_⟩
    refine ⟨_, rfl, rfl, _, rfl, iteF ?_⟩
    refine ⟨_, rfl, rfl, _, rfl, iteF ?_⟩
    refine ⟨_, rfl, rfl, _, rfl, iteF ?_⟩
    refine ⟨_, rfl, rfl, _, rfl, iteF ?_⟩
    refine ⟨_, rfl, rfl, _, rfl, iteF ?_⟩
    refine ⟨_, rfl, rfl, _, rfl, iteF ?_⟩
    refine ⟨_, rfl, rfl, _, rfl, iteF ?_⟩
    refine ⟨_, rfl, rfl, _, rfl, iteT ?_⟩
    refine ⟨_, rfl, _, rfl, _, rfl, na, _, 1, .int a, rfl, rfl, SqL.of hna, rfl, pa, f, a, s, rfl, pj, doesExist_iff.mpr ⟨x, hx⟩, fun hn => ?_, fun hy H' r s1 e1 => ?_⟩
    · refine kf (-1) (by decide) ((wf_step (by unfold Vbjbaj.step; rfl) h0 hf hx).trans ?_)
      rw [if_pos hn]
    · refine k s _ ((wf_step (by unfold Vbjbaj.step; rfl) h0 hf hx).trans ?_) H' r (SameL.of s1) (pj.same s1) e1
      rw [if_neg (by rw [hy]; decide)]
  case cut n g =>
    obtain ⟨x, hx⟩ := doesExist_iff.mp (hex.resolve_left (by simp [isSeers]))
    have hz := Option.some.inj hhd
    subst hz
    refine ⟨_, rfl, rfl, _, rfl, iteF ?_⟩
    refine ⟨_, rfl, rfl, _, rfl, iteF ?_⟩
    refine ⟨_, rfl, rfl, _, rfl, iteF ?_⟩
    refine ⟨_, rfl, rfl, _, rfl, iteF ?_⟩
    refine ⟨_, rfl, rfl, _, rfl, iteF ?_⟩
    refine ⟨_, rfl, rfl, _, rfl, iteF ?_⟩
    refine ⟨_, rfl, rfl, _, rfl, iteF ?_⟩
    refine ⟨_, rfl, rfl, _, rfl, iteF ?_⟩
    refine ⟨_, rfl, rfl, _, rfl, iteF ?_⟩
    refine ⟨_, rfl, rfl, _, rfl, iteF ?_⟩
    refine ⟨_, rfl, rfl, _, rfl, iteT ?_⟩
    refine ⟨_, rfl, _, rfl, _, rfl, na, _, 1, .int g, rfl, rfl, SqL.of hna, rfl, pa, f, g, s, rfl, pj, doesExist_iff.mpr ⟨x, hx⟩, fun c hsc => ?_, fun sn y hy H' r s1 e1 => ?_⟩
    · unfold secondCode at hsc
      split at hsc
      · rename_i c1
        cases hsc
        refine kf (-1) (by decide) ((wf_step (by unfold Vbjbaj.step; rfl) h0 hf hx).trans ?_)
        rw [if_pos c1]
      · rename_i c1
        split at hsc
        · rename_i c2
          cases hsc
          refine kf (-3) (by decide) ((wf_step (by unfold Vbjbaj.step; rfl) h0 hf hx).trans ?_)
          rw [if_neg c1, if_pos c2]
        · rename_i c2
          split at hsc
          · rename_i c3
            cases hsc
            refine kf (-4) (by decide) ((wf_step (by unfold Vbjbaj.step; rfl) h0 hf hx).trans ?_)
            rw [if_neg c1, if_neg c2, if_pos c3]
          · cases hsc
    · obtain ⟨z1, z2, z3⟩ := second_none sn
      refine k s _ ((wf_step (by unfold Vbjbaj.step; rfl) h0 hf hx).trans ?_) H' r (SameL.of s1) (pj.same s1) e1
      rw [if_neg (by rw [num_iff.mpr z1]; decide), if_neg (by rw [z2]; decide), if_neg z3, hy]
      rfl
  case checkCut n g l =>
    obtain ⟨x, hx⟩ := doesExist_iff.mp (hex.resolve_left (by simp [isSeers]))
    have hz := Option.some.inj hhd
    subst hz
    refine ⟨_, rfl, rfl, _, rfl, iteF ?_⟩
    refine ⟨_, rfl, rfl, _, rfl, iteF ?_⟩
    refine ⟨_, rfl, rfl, _, rfl, iteF ?_⟩
    refine ⟨_, rfl, rfl, _, rfl, iteF ?_⟩
    refine ⟨_, rfl, rfl, _, rfl, iteF ?_⟩
    refine ⟨_, rfl, rfl, _, rfl, iteF ?_⟩
    refine ⟨_, rfl, rfl, _, rfl, iteF ?_⟩
    refine ⟨_, rfl, rfl, _, rfl, iteF ?_⟩
    refine ⟨_, rfl, rfl, _, rfl, iteF ?_⟩
    refine ⟨_, rfl, rfl, _, rfl, iteF ?_⟩
    refine ⟨_, rfl, rfl, _, rfl, iteF ?_⟩
    obtain ⟨as, hra, ras, hlen⟩ := ro
    obtain ⟨a, rfl, ha⟩ : ∃ a, as = [a] ∧ H a = some (.lst (rV l)) := by
      cases ras with
      | cons h t => cases t; exact ⟨_, rfl, h⟩
    refine ⟨_, rfl, _, rfl, _, rfl, na, _, 1, .int g, rfl, rfl, SqL.of hna, rfl, _, rfl, ra, _, 0, .ref a, rfl, rfl, SqL.of hra, rfl, pa, a, f, g, l, s, rfl, pj, ha, hlen l (by simp [enc]), doesExist_iff.mpr ⟨x, hx⟩, fun c hsc => ?_, fun sn => ⟨fun hn => ?_, fun hy H' r s1 e1 => ?_⟩⟩
    · unfold secondCode at hsc
      split at hsc
      · rename_i c1
        cases hsc
        refine kf (-1) (by decide) ((wf_step (by unfold Vbjbaj.step; rfl) h0 hf hx).trans ?_)
        rw [if_pos c1]
      · rename_i c1
        split at hsc
        · rename_i c2
          cases hsc
          refine kf (-3) (by decide) ((wf_step (by unfold Vbjbaj.step; rfl) h0 hf hx).trans ?_)
          rw [if_neg c1, if_pos c2]
        · rename_i c2
          split at hsc
          · rename_i c3
            cases hsc
            refine kf (-4) (by decide) ((wf_step (by unfold Vbjbaj.step; rfl) h0 hf hx).trans ?_)
            rw [if_neg c1, if_neg c2, if_pos c3]
          · cases hsc
    · obtain ⟨z1, z2, z3⟩ := second_none sn
      refine kf (-1) (by decide) ((wf_step (by unfold Vbjbaj.step; rfl) h0 hf hx).trans ?_)
      unfold rowOk at hn
      rw [if_neg (by rw [num_iff.mpr z1]; decide), if_neg (by rw [z2]; decide), if_neg z3, if_pos hn]
    · obtain ⟨z1, z2, z3⟩ := second_none sn
      unfold rowOk at hy
      refine k s _ ((wf_step (by unfold Vbjbaj.step; rfl) h0 hf hx).trans ?_) H' r (SameL.of s1) (pj.same s1) e1
      rw [if_neg (by rw [num_iff.mpr z1]; decide), if_neg (by rw [z2]; decide), if_neg z3, if_neg (by rw [hy]; decide)]
      unfold checkOut
      show (s, (match Vbjbaj.path (Vbjbaj.withoutImports s.project (Vbjbaj.pairsIn (Vbjbaj.nats l))) f g.toNat with | none => ([0, 1] : List Int) | some l => 0 :: 0 :: Vbjbaj.counted l)) = _
      cases Vbjbaj.path (Vbjbaj.withoutImports s.project (Vbjbaj.pairsIn (Vbjbaj.nats l))) f g.toNat <;> rfl
end
end Sf
/-! W29: done. -/
namespace Sf
open PySem PySem.Spec PyProof.Rows L2
open Vbjbaj (Statement File Project State Readings)
def doneCall : Vbjbaj.Call → Bool
  | .begin_ _ => false
  | .summary => false
  | _ => true
theorem enc_small (c : Vbjbaj.Call) : (enc c).1 < 22 := by cases c <;> simp [enc]
section
variable {A : Ad}
def sp_done (A : Ad) : Sp := fun vs H Q E => ∃ (pa na ra : Addr) (s : State) (call : Vbjbaj.Call), vs = [.ref pa, .int ((enc call).1 : Int), .ref na, .ref ra] ∧ H na = some (.lst (rV (enc call).2.1)) ∧ PjAt A H pa s ∧ RsOk s ∧ doneCall call = true ∧ RowsH H ra (enc call).2.2 ∧ Ans A H pa s call Q E
/-- the calls whose file must be a number, and there -/
def numOf (c : Vbjbaj.Call) : Option (Int × Bool) := match c with
  | .file n _ _ _ => some (n, false)
  | .remove n => some (n, true)
  | .visible n => some (n, true)
  | .seers n => some (n, false)
  | .path n _ => some (n, true)
  | .statements n => some (n, true)
  | .relevant n => some (n, true)
  | .source n _ _ _ => some (n, true)
  | .read n => some (n, true)
  | .reasons n => some (n, true)
  | .would n _ _ _ => some (n, false)
  | .wouldRemove n => some (n, true)
  | .needed n => some (n, true)
  | .touched n _ => some (n, true)
  | .cut n _ => some (n, true)
  | .checkCut n _ _ => some (n, true)
  | _ => none
theorem step_zero {s : State} {c : Vbjbaj.Call} (h : s.tokens = 0) (hd : doneCall c = true) : Vbjbaj.step s c = (s, [-2]) := by
  cases c <;> simp [Vbjbaj.step, Vbjbaj.withFile, h, doneCall] at hd ⊢
theorem step_num {s : State} {c : Vbjbaj.Call} {z : Int} {b : Bool} (h : s.tokens ≠ 0) (hn : numOf c = some (z, b)) (hz : Vbjbaj.isNumber z = false) : Vbjbaj.step s c = (s, [-1]) := by
  cases c <;> simp only [numOf, Option.some.injEq, Prod.mk.injEq, reduceCtorEq] at hn <;> (obtain ⟨rfl, _⟩ := hn; simp [Vbjbaj.step, Vbjbaj.withFile, h, hz])
theorem step_miss {s : State} {c : Vbjbaj.Call} {f : Nat} (h : s.tokens ≠ 0) (hn : numOf c = some ((f : Int), true)) (hf : f < 10) (hx : Vbjbaj.doesExist s.project f = false) : Vbjbaj.step s c = (s, [-3]) := by
  have hz := num_nat hf
  have e : Vbjbaj.fileAt s.project f = none := by
    unfold Vbjbaj.doesExist at hx
    cases q : Vbjbaj.fileAt s.project f with
    | none => rfl
    | some x => rw [q] at hx; cases hx
  cases c <;> simp only [numOf, Option.some.injEq, Prod.mk.injEq, reduceCtorEq, and_true, and_false, Bool.false_eq_true] at hn <;> (subst hn; simp [Vbjbaj.step, Vbjbaj.withFile, h, hz, hx, e])
theorem sqT_any {K : PySem.W.Frag} {H : Hp} {a : Addr} {xs : List V} (h : SqT K (fun _ => none) a xs) : SqT K H a xs := by
  rcases h with h | h
  · rcases h with h | ⟨o, h⟩ <;> cases h
  · exact .inr h
theorem sqL_any {K : PySem.W.Frag} {H : Hp} {a : Addr} {xs : List V} (h : SqL K (fun _ => none) a xs) : SqL K H a xs := by
  rcases h with h | h
  · rcases h with h | ⟨o, h⟩ <;> cases h
  · exact .inr h
end
section
variable {P : Program} {w : World} {K : PySem.W.Frag} {mg : Str → Option Value} {base : Heap} {A : Ad}
theorem ok_done (T : Txt K mg A) (C_need : Cal P w K mg base (L2.CX P w) 3 "need" ["is_right", "code"] (sp_need A)) (C_of_changes : Cal P w K mg base (L2.CX P w) 8 "of_changes" ["project", "word", "numbers", "rows"] (sp_of_changes A)) (M_pending : MCal P w K mg base CX0 7 A.Project "pending" ["self", "files"] (sp_pending A)) (C_listed : Cal P w K mg base CX0 1 "listed" ["some"] (sp_listed K))
    (C_read_all : Cal P w K mg base CX0 8 "read_all" ["project"] (sp_read_all A)) (C_all_rings : Cal P w K mg base CX0 5 "all_rings" ["project"] (sp_all_rings A)) (C_undo : Cal P w K mg base (L2.CX P w) 8 "undo" ["project"] (sp_undo A)) (C_of_file : Cal P w K mg base (L2.CX P w) 13 "of_file" ["project", "word", "numbers", "rows"] (sp_of_file A))
    {f : Addr} {fd : FuncData} (F : Fun K "done" "done" s_done f fd) : FnOk P w K mg base (L2.CX P w) 14 f fd ["project", "word", "numbers", "rows"] (sp_done A) := by
  refine F.okX sc_done (fun vs H Q E h => by obtain ⟨pa, na, ra, s, call, rfl, _⟩ := h; rfl) (fun cdv A' outer s H vs Q E hr h => ?_)
  have hu := hu_of hr
  refine ⟨_, (pss_cons (ps_expr (pe_cal C_need (hr.mono (by decide)) (passes_call (takes_of rfl rfl rfl rfl) (fun _ _ _ _ h => h)) (pa_cons (pe_cmpR op_gt (pe_fld (pv 0) rfl) pe_int (nomark _)) (pa_cons (pe_un un_neg pe_int) pa_nil))))
(pss_cons (ps_if (pt_cmpR op_in_seq (pv 1) (pe_gl T.c_WITH_NUMBER) (by rfl)) (pss_cons (ps_expr (pe_cal C_need (hr.mono (by decide)) (passes_call (takes_of rfl rfl rfl rfl) (fun _ _ _ _ h => h)) (pa_cons (pe_chain op_le op_le pe_int (pe_ix ix_list (pv 2) pe_int (fun _ _ => rfl)) (pe_gl T.c_MOST_NUMBER)) (pa_cons (pe_un un_neg pe_int) pa_nil))))
(pss_one (ps_expr (pe_cal C_need (hr.mono (by decide)) (passes_call (takes_of rfl rfl rfl rfl) (fun _ _ _ _ h => h)) (pa_cons (pe_or (pe_cmpR op_in_seq (pv 1) (pe_tup (pa_cons pe_int (pa_cons pe_int (pa_cons pe_int pa_nil)))) (by rfl)) (pe_one (pe_cmp (pc_din hu (pe_ix ix_list (pv 2) pe_int (fun _ _ => rfl)) (pe_fld (pv 0) rfl)) (by rfl)))) (pa_cons (pe_un un_neg pe_int) pa_nil)))))) pss_nil)
(pss_cons (ps_if (pt_cmpR op_in_seq (pv 1) (pe_tup (pa_cons pe_int (pa_cons pe_int (pa_cons pe_int (pa_cons pe_int pa_nil))))) (by rfl)) (pss_one (ps_ret (pe_cal C_of_changes (hr.mono (by decide)) (passes_call (takes_of rfl rfl rfl rfl) (fun _ _ _ _ h => h)) (pa_cons (pv 0) (pa_cons (pv 1) (pa_cons (pv 2) (pa_cons (pv 3) pa_nil))))))) pss_nil)
(pss_cons (ps_if (pt_cmpR op_eq (pv 1) pe_int (nomark _)) (pss_one (ps_ret (pe_cal C_listed (hr.mono (by decide)) pass0 (pa_cons (pe_mcal M_pending T.clP (pv 0) (hr.mono (by decide)) pass0 (pa_cons (pe_fld (pv 0) rfl) pa_nil)) pa_nil)))) pss_nil)
(pss_cons (ps_if (pt_cmpR op_eq (pv 1) pe_int (nomark _)) (pss_one (ps_ret (pe_cal C_read_all (hr.mono (by decide)) pass0 (pa_cons (pv 0) pa_nil)))) pss_nil)
(pss_cons (ps_if (pt_cmpR op_eq (pv 1) pe_int (nomark _)) (pss_one (ps_ret (pe_cal C_all_rings (hr.mono (by decide)) pass0 (pa_cons (pv 0) pa_nil)))) pss_nil)
(pss_one (ps_ret (pe_ifExp (pt_cmpR op_eq (pv 1) pe_int (nomark _)) (pe_cal C_undo (hr.mono (by decide)) (passes_call (takes_of rfl rfl rfl rfl) (fun _ _ _ _ h => h)) (pa_cons (pv 0) pa_nil)) (pe_cal C_of_file (hr.mono (by decide)) (passes_call (takes_of rfl rfl rfl rfl) (fun _ _ _ _ h => h)) (pa_cons (pv 0) (pa_cons (pv 1) (pa_cons (pv 2) (pa_cons (pv 3) pa_nil)))))))))))))), ?_⟩
  obtain ⟨pa, na, ra, s, call, rfl, hna, pj0, rs, hc, ro, kf, k⟩ := h
  obtain ⟨ok, dx, df, kd, bl, pj⟩ := id pj0
  have fa := pj.fu.at_
  refine ⟨_, rfl, pa, A.Project, dx, _, _, rfl, pj.ob, T.clP, T.nP_tokens, projF_tokens _ _ _ _, _, _, rfl, rfl, _, rfl, _, _, rfl, ?_, ?_⟩
  case refine_2 =>
    intro hn
    have := of_decide_eq_false hn
    exact kf (-2) (by decide) (step_zero (by omega) hc)
  intro y0
  have h0 : s.tokens ≠ 0 := by have := of_decide_eq_true y0; omega
  cases call
  case begin_ t => exact absurd hc (by simp [doneCall])
  case summary => exact absurd hc (by simp [doneCall])
  case visible n =>
    refine ⟨_, rfl, A.withn, _, rfl, .inr (sqT_any T.withn), rfl, rfl, _, rfl, iteT ?_⟩
    refine ⟨_, rfl, na, _, 0, .int n, rfl, rfl, SqL.of hna, rfl, _, _, rfl, rfl, _, rfl, ?_⟩
    refine ite2 (fun c1 => ?_) (fun c1 => ⟨_, rfl, false, -1, rfl, (fun z => by cases z), fun _ => kf (-1) (by decide) (step_num h0 rfl (by rw [← Bool.not_eq_true, num_iff]; exact fun h => c1 (decide_eq_true h.1)))⟩)
    have h1 : 0 ≤ n := of_decide_eq_true c1
    refine ⟨_, _, rfl, rfl, _, rfl, _, _, rfl, ?_, fun hn => kf (-1) (by decide) (step_num h0 rfl (by rw [← Bool.not_eq_true, num_iff]; exact fun h => of_decide_eq_false hn h.2))⟩
    intro y1
    have h2 : n ≤ 9 := of_decide_eq_true y1
    obtain ⟨f, rfl⟩ := Int.eq_ofNat_of_zero_le h1
    have hf : f < 10 := by omega
    refine ⟨_, rfl, by show 3 ≤ sizeLine; decide, fun q hq => ?_⟩
    have s1 : Same H (upd H q (.tup [.int 1, .int 4, .int 13])) := Same.new hq
    refine ⟨q, _, rfl, .inr (SqT.of upd_same), rfl, rfl, _, rfl, ?_⟩
    refine iteF ?_
    obtain ⟨o, go, ho⟩ := (fa.same s1).has f
    refine ⟨_, rfl, na, _, 0, .int (f : Int), rfl, rfl, SqL.of (s1 _ _ hna), rfl, _, rfl, pa, A.Project, dx, _, _, rfl, s1 _ _ pj.ob, T.clP, T.nP_files, projF_files _ _ _ _, df, o, rfl, go, _, rfl, _, _, rfl, ?_, ?_⟩
    case refine_2 =>
      intro hn
      rw [ho] at hn
      exact (kf (-3) (by decide) (step_miss h0 rfl hf hn)).after s1
    intro y2
    rw [ho] at y2
    refine ⟨_, rfl, by show 4 ≤ sizeLine; decide, fun q2 hq2 => ?_⟩
    have s2 := s1.trans (Same.new (o := .tup [.int 1, .int 2, .int 13, .int 14]) hq2)
    refine ⟨q2, _, rfl, .inr (SqT.of upd_same), rfl, rfl, _, rfl, iteF ?_⟩
    generalize upd (upd H q (.tup [.int 1, .int 4, .int 13])) q2 (.tup [.int 1, .int 2, .int 13, .int 14]) = H2 at s2
    refine ⟨_, rfl, rfl, _, rfl, iteF ?_⟩
    refine ⟨_, rfl, rfl, _, rfl, iteF ?_⟩
    refine ⟨_, rfl, rfl, _, rfl, iteF ?_⟩
    refine ⟨_, rfl, rfl, _, rfl, iteF ?_⟩
    refine ⟨_, rfl, _, rfl, _, rfl, _, rfl, pa, na, ra, s, f, .visible (f : Int), rfl, s2 _ _ hna, rfl, hf, pj0.same s2, rs, h0, rfl, .inr y2, ro.same s2, fun c hc e => (kf c hc e).after s2, fun s' l e H' r sl => k s' l e H' r ((SameL.of s2).trans sl)⟩
  case path n g =>
    refine ⟨_, rfl, A.withn, _, rfl, .inr (sqT_any T.withn), rfl, rfl, _, rfl, iteT ?_⟩
    refine ⟨_, rfl, na, _, 0, .int n, rfl, rfl, SqL.of hna, rfl, _, _, rfl, rfl, _, rfl, ?_⟩
    refine ite2 (fun c1 => ?_) (fun c1 => ⟨_, rfl, false, -1, rfl, (fun z => by cases z), fun _ => kf (-1) (by decide) (step_num h0 rfl (by rw [← Bool.not_eq_true, num_iff]; exact fun h => c1 (decide_eq_true h.1)))⟩)
    have h1 : 0 ≤ n := of_decide_eq_true c1
    refine ⟨_, _, rfl, rfl, _, rfl, _, _, rfl, ?_, fun hn => kf (-1) (by decide) (step_num h0 rfl (by rw [← Bool.not_eq_true, num_iff]; exact fun h => of_decide_eq_false hn h.2))⟩
    intro y1
    have h2 : n ≤ 9 := of_decide_eq_true y1
    obtain ⟨f, rfl⟩ := Int.eq_ofNat_of_zero_le h1
    have hf : f < 10 := by omega
    refine ⟨_, rfl, by show 3 ≤ sizeLine; decide, fun q hq => ?_⟩
    have s1 : Same H (upd H q (.tup [.int 1, .int 4, .int 13])) := Same.new hq
    refine ⟨q, _, rfl, .inr (SqT.of upd_same), rfl, rfl, _, rfl, ?_⟩
    refine iteF ?_
    obtain ⟨o, go, ho⟩ := (fa.same s1).has f
    refine ⟨_, rfl, na, _, 0, .int (f : Int), rfl, rfl, SqL.of (s1 _ _ hna), rfl, _, rfl, pa, A.Project, dx, _, _, rfl, s1 _ _ pj.ob, T.clP, T.nP_files, projF_files _ _ _ _, df, o, rfl, go, _, rfl, _, _, rfl, ?_, ?_⟩
    case refine_2 =>
      intro hn
      rw [ho] at hn
      exact (kf (-3) (by decide) (step_miss h0 rfl hf hn)).after s1
    intro y2
    rw [ho] at y2
    refine ⟨_, rfl, by show 4 ≤ sizeLine; decide, fun q2 hq2 => ?_⟩
    have s2 := s1.trans (Same.new (o := .tup [.int 1, .int 2, .int 13, .int 14]) hq2)
    refine ⟨q2, _, rfl, .inr (SqT.of upd_same), rfl, rfl, _, rfl, iteF ?_⟩
    generalize upd (upd H q (.tup [.int 1, .int 4, .int 13])) q2 (.tup [.int 1, .int 2, .int 13, .int 14]) = H2 at s2
    refine ⟨_, rfl, rfl, _, rfl, iteF ?_⟩
    refine ⟨_, rfl, rfl, _, rfl, iteF ?_⟩
    refine ⟨_, rfl, rfl, _, rfl, iteF ?_⟩
    refine ⟨_, rfl, rfl, _, rfl, iteF ?_⟩
    refine ⟨_, rfl, _, rfl, _, rfl, _, rfl, pa, na, ra, s, f, .path (f : Int) g, rfl, s2 _ _ hna, rfl, hf, pj0.same s2, rs, h0, rfl, .inr y2, ro.same s2, fun c hc e => (kf c hc e).after s2, fun s' l e H' r sl => k s' l e H' r ((SameL.of s2).trans sl)⟩
  case statements n =>
    refine ⟨_, rfl, A.withn, _, rfl, .inr (sqT_any T.withn), rfl, rfl, _, rfl, iteT ?_⟩
    refine ⟨_, rfl, na, _, 0, .int n, rfl, rfl, SqL.of hna, rfl, _, _, rfl, rfl, _, rfl, ?_⟩
    refine ite2 (fun c1 => ?_) (fun c1 => ⟨_, rfl, false, -1, rfl, (fun z => by cases z), fun _ => kf (-1) (by decide) (step_num h0 rfl (by rw [← Bool.not_eq_true, num_iff]; exact fun h => c1 (decide_eq_true h.1)))⟩)
    have h1 : 0 ≤ n := of_decide_eq_true c1
    refine ⟨_, _, rfl, rfl, _, rfl, _, _, rfl, ?_, fun hn => kf (-1) (by decide) (step_num h0 rfl (by rw [← Bool.not_eq_true, num_iff]; exact fun h => of_decide_eq_false hn h.2))⟩
    intro y1
    have h2 : n ≤ 9 := of_decide_eq_true y1
    obtain ⟨f, rfl⟩ := Int.eq_ofNat_of_zero_le h1
    have hf : f < 10 := by omega
    refine ⟨_, rfl, by show 3 ≤ sizeLine; decide, fun q hq => ?_⟩
    have s1 : Same H (upd H q (.tup [.int 1, .int 4, .int 13])) := Same.new hq
    refine ⟨q, _, rfl, .inr (SqT.of upd_same), rfl, rfl, _, rfl, ?_⟩
    refine iteF ?_
    obtain ⟨o, go, ho⟩ := (fa.same s1).has f
    refine ⟨_, rfl, na, _, 0, .int (f : Int), rfl, rfl, SqL.of (s1 _ _ hna), rfl, _, rfl, pa, A.Project, dx, _, _, rfl, s1 _ _ pj.ob, T.clP, T.nP_files, projF_files _ _ _ _, df, o, rfl, go, _, rfl, _, _, rfl, ?_, ?_⟩
    case refine_2 =>
      intro hn
      rw [ho] at hn
      exact (kf (-3) (by decide) (step_miss h0 rfl hf hn)).after s1
    intro y2
    rw [ho] at y2
    refine ⟨_, rfl, by show 4 ≤ sizeLine; decide, fun q2 hq2 => ?_⟩
    have s2 := s1.trans (Same.new (o := .tup [.int 1, .int 2, .int 13, .int 14]) hq2)
    refine ⟨q2, _, rfl, .inr (SqT.of upd_same), rfl, rfl, _, rfl, iteF ?_⟩
    generalize upd (upd H q (.tup [.int 1, .int 4, .int 13])) q2 (.tup [.int 1, .int 2, .int 13, .int 14]) = H2 at s2
    refine ⟨_, rfl, rfl, _, rfl, iteF ?_⟩
    refine ⟨_, rfl, rfl, _, rfl, iteF ?_⟩
    refine ⟨_, rfl, rfl, _, rfl, iteF ?_⟩
    refine ⟨_, rfl, rfl, _, rfl, iteF ?_⟩
    refine ⟨_, rfl, _, rfl, _, rfl, _, rfl, pa, na, ra, s, f, .statements (f : Int), rfl, s2 _ _ hna, rfl, hf, pj0.same s2, rs, h0, rfl, .inr y2, ro.same s2, fun c hc e => (kf c hc e).after s2, fun s' l e H' r sl => k s' l e H' r ((SameL.of s2).trans sl)⟩
  case relevant n =>
    refine ⟨_, rfl, A.withn, _, rfl, .inr (sqT_any T.withn), rfl, rfl, _, rfl, iteT ?_⟩
    refine ⟨_, rfl, na, _, 0, .int n, rfl, rfl, SqL.of hna, rfl, _, _, rfl, rfl, _, rfl, ?_⟩
    refine ite2 (fun c1 => ?_) (fun c1 => ⟨_, rfl, false, -1, rfl, (fun z => by cases z), fun _ => kf (-1) (by decide) (step_num h0 rfl (by rw [← Bool.not_eq_true, num_iff]; exact fun h => c1 (decide_eq_true h.1)))⟩)
    have h1 : 0 ≤ n := of_decide_eq_true c1
    refine ⟨_, _, rfl, rfl, _, rfl, _, _, rfl, ?_, fun hn => kf (-1) (by decide) (step_num h0 rfl (by rw [← Bool.not_eq_true, num_iff]; exact fun h => of_decide_eq_false hn h.2))⟩
    intro y1
    have h2 : n ≤ 9 := of_decide_eq_true y1
    obtain ⟨f, rfl⟩ := Int.eq_ofNat_of_zero_le h1
    have hf : f < 10 := by omega
    refine ⟨_, rfl, by show 3 ≤ sizeLine; decide, fun q hq => ?_⟩
    have s1 : Same H (upd H q (.tup [.int 1, .int 4, .int 13])) := Same.new hq
    refine ⟨q, _, rfl, .inr (SqT.of upd_same), rfl, rfl, _, rfl, ?_⟩
    refine iteF ?_
    obtain ⟨o, go, ho⟩ := (fa.same s1).has f
    refine ⟨_, rfl, na, _, 0, .int (f : Int), rfl, rfl, SqL.of (s1 _ _ hna), rfl, _, rfl, pa, A.Project, dx, _, _, rfl, s1 _ _ pj.ob, T.clP, T.nP_files, projF_files _ _ _ _, df, o, rfl, go, _, rfl, _, _, rfl, ?_, ?_⟩
    case refine_2 =>
      intro hn
      rw [ho] at hn
      exact (kf (-3) (by decide) (step_miss h0 rfl hf hn)).after s1
    intro y2
    rw [ho] at y2
    refine ⟨_, rfl, by show 4 ≤ sizeLine; decide, fun q2 hq2 => ?_⟩
    have s2 := s1.trans (Same.new (o := .tup [.int 1, .int 2, .int 13, .int 14]) hq2)
    refine ⟨q2, _, rfl, .inr (SqT.of upd_same), rfl, rfl, _, rfl, iteF ?_⟩
    generalize upd (upd H q (.tup [.int 1, .int 4, .int 13])) q2 (.tup [.int 1, .int 2, .int 13, .int 14]) = H2 at s2
    refine ⟨_, rfl, rfl, _, rfl, iteF ?_⟩
    refine ⟨_, rfl, rfl, _, rfl, iteF ?_⟩
    refine ⟨_, rfl, rfl, _, rfl, iteF ?_⟩
    refine ⟨_, rfl, rfl, _, rfl, iteF ?_⟩
    refine ⟨_, rfl, _, rfl, _, rfl, _, rfl, pa, na, ra, s, f, .relevant (f : Int), rfl, s2 _ _ hna, rfl, hf, pj0.same s2, rs, h0, rfl, .inr y2, ro.same s2, fun c hc e => (kf c hc e).after s2, fun s' l e H' r sl => k s' l e H' r ((SameL.of s2).trans sl)⟩
  case source n a b c =>
    refine ⟨_, rfl, A.withn, _, rfl, .inr (sqT_any T.withn), rfl, rfl, _, rfl, iteT ?_⟩
    refine ⟨_, rfl, na, _, 0, .int n, rfl, rfl, SqL.of hna, rfl, _, _, rfl, rfl, _, rfl, ?_⟩
    refine ite2 (fun c1 => ?_) (fun c1 => ⟨_, rfl, false, -1, rfl, (fun z => by cases z), fun _ => kf (-1) (by decide) (step_num h0 rfl (by rw [← Bool.not_eq_true, num_iff]; exact fun h => c1 (decide_eq_true h.1)))⟩)
    have h1 : 0 ≤ n := of_decide_eq_true c1
    refine ⟨_, _, rfl, rfl, _, rfl, _, _, rfl, ?_, fun hn => kf (-1) (by decide) (step_num h0 rfl (by rw [← Bool.not_eq_true, num_iff]; exact fun h => of_decide_eq_false hn h.2))⟩
    intro y1
    have h2 : n ≤ 9 := of_decide_eq_true y1
    obtain ⟨f, rfl⟩ := Int.eq_ofNat_of_zero_le h1
    have hf : f < 10 := by omega
    refine ⟨_, rfl, by show 3 ≤ sizeLine; decide, fun q hq => ?_⟩
    have s1 : Same H (upd H q (.tup [.int 1, .int 4, .int 13])) := Same.new hq
    refine ⟨q, _, rfl, .inr (SqT.of upd_same), rfl, rfl, _, rfl, ?_⟩
    refine iteF ?_
    obtain ⟨o, go, ho⟩ := (fa.same s1).has f
    refine ⟨_, rfl, na, _, 0, .int (f : Int), rfl, rfl, SqL.of (s1 _ _ hna), rfl, _, rfl, pa, A.Project, dx, _, _, rfl, s1 _ _ pj.ob, T.clP, T.nP_files, projF_files _ _ _ _, df, o, rfl, go, _, rfl, _, _, rfl, ?_, ?_⟩
    case refine_2 =>
      intro hn
      rw [ho] at hn
      exact (kf (-3) (by decide) (step_miss h0 rfl hf hn)).after s1
    intro y2
    rw [ho] at y2
    refine ⟨_, rfl, by show 4 ≤ sizeLine; decide, fun q2 hq2 => ?_⟩
    have s2 := s1.trans (Same.new (o := .tup [.int 1, .int 2, .int 13, .int 14]) hq2)
    refine ⟨q2, _, rfl, .inr (SqT.of upd_same), rfl, rfl, _, rfl, iteF ?_⟩
    generalize upd (upd H q (.tup [.int 1, .int 4, .int 13])) q2 (.tup [.int 1, .int 2, .int 13, .int 14]) = H2 at s2
    refine ⟨_, rfl, rfl, _, rfl, iteF ?_⟩
    refine ⟨_, rfl, rfl, _, rfl, iteF ?_⟩
    refine ⟨_, rfl, rfl, _, rfl, iteF ?_⟩
    refine ⟨_, rfl, rfl, _, rfl, iteF ?_⟩
    refine ⟨_, rfl, _, rfl, _, rfl, _, rfl, pa, na, ra, s, f, .source (f : Int) a b c, rfl, s2 _ _ hna, rfl, hf, pj0.same s2, rs, h0, rfl, .inr y2, ro.same s2, fun c hc e => (kf c hc e).after s2, fun s' l e H' r sl => k s' l e H' r ((SameL.of s2).trans sl)⟩
  case read n =>
    refine ⟨_, rfl, A.withn, _, rfl, .inr (sqT_any T.withn), rfl, rfl, _, rfl, iteT ?_⟩
    refine ⟨_, rfl, na, _, 0, .int n, rfl, rfl, SqL.of hna, rfl, _, _, rfl, rfl, _, rfl, ?_⟩
    refine ite2 (fun c1 => ?_) (fun c1 => ⟨_, rfl, false, -1, rfl, (fun z => by cases z), fun _ => kf (-1) (by decide) (step_num h0 rfl (by rw [← Bool.not_eq_true, num_iff]; exact fun h => c1 (decide_eq_true h.1)))⟩)
    have h1 : 0 ≤ n := of_decide_eq_true c1
    refine ⟨_, _, rfl, rfl, _, rfl, _, _, rfl, ?_, fun hn => kf (-1) (by decide) (step_num h0 rfl (by rw [← Bool.not_eq_true, num_iff]; exact fun h => of_decide_eq_false hn h.2))⟩
    intro y1
    have h2 : n ≤ 9 := of_decide_eq_true y1
    obtain ⟨f, rfl⟩ := Int.eq_ofNat_of_zero_le h1
    have hf : f < 10 := by omega
    refine ⟨_, rfl, by show 3 ≤ sizeLine; decide, fun q hq => ?_⟩
    have s1 : Same H (upd H q (.tup [.int 1, .int 4, .int 13])) := Same.new hq
    refine ⟨q, _, rfl, .inr (SqT.of upd_same), rfl, rfl, _, rfl, ?_⟩
    refine iteF ?_
    obtain ⟨o, go, ho⟩ := (fa.same s1).has f
    refine ⟨_, rfl, na, _, 0, .int (f : Int), rfl, rfl, SqL.of (s1 _ _ hna), rfl, _, rfl, pa, A.Project, dx, _, _, rfl, s1 _ _ pj.ob, T.clP, T.nP_files, projF_files _ _ _ _, df, o, rfl, go, _, rfl, _, _, rfl, ?_, ?_⟩
    case refine_2 =>
      intro hn
      rw [ho] at hn
      exact (kf (-3) (by decide) (step_miss h0 rfl hf hn)).after s1
    intro y2
    rw [ho] at y2
    refine ⟨_, rfl, by show 4 ≤ sizeLine; decide, fun q2 hq2 => ?_⟩
    have s2 := s1.trans (Same.new (o := .tup [.int 1, .int 2, .int 13, .int 14]) hq2)
    refine ⟨q2, _, rfl, .inr (SqT.of upd_same), rfl, rfl, _, rfl, iteF ?_⟩
    generalize upd (upd H q (.tup [.int 1, .int 4, .int 13])) q2 (.tup [.int 1, .int 2, .int 13, .int 14]) = H2 at s2
    refine ⟨_, rfl, rfl, _, rfl, iteF ?_⟩
    refine ⟨_, rfl, rfl, _, rfl, iteF ?_⟩
    refine ⟨_, rfl, rfl, _, rfl, iteF ?_⟩
    refine ⟨_, rfl, rfl, _, rfl, iteF ?_⟩
    refine ⟨_, rfl, _, rfl, _, rfl, _, rfl, pa, na, ra, s, f, .read (f : Int), rfl, s2 _ _ hna, rfl, hf, pj0.same s2, rs, h0, rfl, .inr y2, ro.same s2, fun c hc e => (kf c hc e).after s2, fun s' l e H' r sl => k s' l e H' r ((SameL.of s2).trans sl)⟩
  case reasons n =>
    refine ⟨_, rfl, A.withn, _, rfl, .inr (sqT_any T.withn), rfl, rfl, _, rfl, iteT ?_⟩
    refine ⟨_, rfl, na, _, 0, .int n, rfl, rfl, SqL.of hna, rfl, _, _, rfl, rfl, _, rfl, ?_⟩
    refine ite2 (fun c1 => ?_) (fun c1 => ⟨_, rfl, false, -1, rfl, (fun z => by cases z), fun _ => kf (-1) (by decide) (step_num h0 rfl (by rw [← Bool.not_eq_true, num_iff]; exact fun h => c1 (decide_eq_true h.1)))⟩)
    have h1 : 0 ≤ n := of_decide_eq_true c1
    refine ⟨_, _, rfl, rfl, _, rfl, _, _, rfl, ?_, fun hn => kf (-1) (by decide) (step_num h0 rfl (by rw [← Bool.not_eq_true, num_iff]; exact fun h => of_decide_eq_false hn h.2))⟩
    intro y1
    have h2 : n ≤ 9 := of_decide_eq_true y1
    obtain ⟨f, rfl⟩ := Int.eq_ofNat_of_zero_le h1
    have hf : f < 10 := by omega
    refine ⟨_, rfl, by show 3 ≤ sizeLine; decide, fun q hq => ?_⟩
    have s1 : Same H (upd H q (.tup [.int 1, .int 4, .int 13])) := Same.new hq
    refine ⟨q, _, rfl, .inr (SqT.of upd_same), rfl, rfl, _, rfl, ?_⟩
    refine iteF ?_
    obtain ⟨o, go, ho⟩ := (fa.same s1).has f
    refine ⟨_, rfl, na, _, 0, .int (f : Int), rfl, rfl, SqL.of (s1 _ _ hna), rfl, _, rfl, pa, A.Project, dx, _, _, rfl, s1 _ _ pj.ob, T.clP, T.nP_files, projF_files _ _ _ _, df, o, rfl, go, _, rfl, _, _, rfl, ?_, ?_⟩
    case refine_2 =>
      intro hn
      rw [ho] at hn
      exact (kf (-3) (by decide) (step_miss h0 rfl hf hn)).after s1
    intro y2
    rw [ho] at y2
    refine ⟨_, rfl, by show 4 ≤ sizeLine; decide, fun q2 hq2 => ?_⟩
    have s2 := s1.trans (Same.new (o := .tup [.int 1, .int 2, .int 13, .int 14]) hq2)
    refine ⟨q2, _, rfl, .inr (SqT.of upd_same), rfl, rfl, _, rfl, iteF ?_⟩
    generalize upd (upd H q (.tup [.int 1, .int 4, .int 13])) q2 (.tup [.int 1, .int 2, .int 13, .int 14]) = H2 at s2
    refine ⟨_, rfl, rfl, _, rfl, iteF ?_⟩
    refine ⟨_, rfl, rfl, _, rfl, iteF ?_⟩
    refine ⟨_, rfl, rfl, _, rfl, iteF ?_⟩
    refine ⟨_, rfl, rfl, _, rfl, iteF ?_⟩
    refine ⟨_, rfl, _, rfl, _, rfl, _, rfl, pa, na, ra, s, f, .reasons (f : Int), rfl, s2 _ _ hna, rfl, hf, pj0.same s2, rs, h0, rfl, .inr y2, ro.same s2, fun c hc e => (kf c hc e).after s2, fun s' l e H' r sl => k s' l e H' r ((SameL.of s2).trans sl)⟩
  case needed n =>
    refine ⟨_, rfl, A.withn, _, rfl, .inr (sqT_any T.withn), rfl, rfl, _, rfl, iteT ?_⟩
    refine ⟨_, rfl, na, _, 0, .int n, rfl, rfl, SqL.of hna, rfl, _, _, rfl, rfl, _, rfl, ?_⟩
    refine ite2 (fun c1 => ?_) (fun c1 => ⟨_, rfl, false, -1, rfl, (fun z => by cases z), fun _ => kf (-1) (by decide) (step_num h0 rfl (by rw [← Bool.not_eq_true, num_iff]; exact fun h => c1 (decide_eq_true h.1)))⟩)
    have h1 : 0 ≤ n := of_decide_eq_true c1
    refine ⟨_, _, rfl, rfl, _, rfl, _, _, rfl, ?_, fun hn => kf (-1) (by decide) (step_num h0 rfl (by rw [← Bool.not_eq_true, num_iff]; exact fun h => of_decide_eq_false hn h.2))⟩
    intro y1
    have h2 : n ≤ 9 := of_decide_eq_true y1
    obtain ⟨f, rfl⟩ := Int.eq_ofNat_of_zero_le h1
    have hf : f < 10 := by omega
    refine ⟨_, rfl, by show 3 ≤ sizeLine; decide, fun q hq => ?_⟩
    have s1 : Same H (upd H q (.tup [.int 1, .int 4, .int 13])) := Same.new hq
    refine ⟨q, _, rfl, .inr (SqT.of upd_same), rfl, rfl, _, rfl, ?_⟩
    refine iteF ?_
    obtain ⟨o, go, ho⟩ := (fa.same s1).has f
    refine ⟨_, rfl, na, _, 0, .int (f : Int), rfl, rfl, SqL.of (s1 _ _ hna), rfl, _, rfl, pa, A.Project, dx, _, _, rfl, s1 _ _ pj.ob, T.clP, T.nP_files, projF_files _ _ _ _, df, o, rfl, go, _, rfl, _, _, rfl, ?_, ?_⟩
    case refine_2 =>
      intro hn
      rw [ho] at hn
      exact (kf (-3) (by decide) (step_miss h0 rfl hf hn)).after s1
    intro y2
    rw [ho] at y2
    refine ⟨_, rfl, by show 4 ≤ sizeLine; decide, fun q2 hq2 => ?_⟩
    have s2 := s1.trans (Same.new (o := .tup [.int 1, .int 2, .int 13, .int 14]) hq2)
    refine ⟨q2, _, rfl, .inr (SqT.of upd_same), rfl, rfl, _, rfl, iteF ?_⟩
    generalize upd (upd H q (.tup [.int 1, .int 4, .int 13])) q2 (.tup [.int 1, .int 2, .int 13, .int 14]) = H2 at s2
    refine ⟨_, rfl, rfl, _, rfl, iteF ?_⟩
    refine ⟨_, rfl, rfl, _, rfl, iteF ?_⟩
    refine ⟨_, rfl, rfl, _, rfl, iteF ?_⟩
    refine ⟨_, rfl, rfl, _, rfl, iteF ?_⟩
    refine ⟨_, rfl, _, rfl, _, rfl, _, rfl, pa, na, ra, s, f, .needed (f : Int), rfl, s2 _ _ hna, rfl, hf, pj0.same s2, rs, h0, rfl, .inr y2, ro.same s2, fun c hc e => (kf c hc e).after s2, fun s' l e H' r sl => k s' l e H' r ((SameL.of s2).trans sl)⟩
  case touched n a =>
    refine ⟨_, rfl, A.withn, _, rfl, .inr (sqT_any T.withn), rfl, rfl, _, rfl, iteT ?_⟩
    refine ⟨_, rfl, na, _, 0, .int n, rfl, rfl, SqL.of hna, rfl, _, _, rfl, rfl, _, rfl, ?_⟩
    refine ite2 (fun c1 => ?_) (fun c1 => ⟨_, rfl, false, -1, rfl, (fun z => by cases z), fun _ => kf (-1) (by decide) (step_num h0 rfl (by rw [← Bool.not_eq_true, num_iff]; exact fun h => c1 (decide_eq_true h.1)))⟩)
    have h1 : 0 ≤ n := of_decide_eq_true c1
    refine ⟨_, _, rfl, rfl, _, rfl, _, _, rfl, ?_, fun hn => kf (-1) (by decide) (step_num h0 rfl (by rw [← Bool.not_eq_true, num_iff]; exact fun h => of_decide_eq_false hn h.2))⟩
    intro y1
    have h2 : n ≤ 9 := of_decide_eq_true y1
    obtain ⟨f, rfl⟩ := Int.eq_ofNat_of_zero_le h1
    have hf : f < 10 := by omega
    refine ⟨_, rfl, by show 3 ≤ sizeLine; decide, fun q hq => ?_⟩
    have s1 : Same H (upd H q (.tup [.int 1, .int 4, .int 13])) := Same.new hq
    refine ⟨q, _, rfl, .inr (SqT.of upd_same), rfl, rfl, _, rfl, ?_⟩
    refine iteF ?_
    obtain ⟨o, go, ho⟩ := (fa.same s1).has f
    refine ⟨_, rfl, na, _, 0, .int (f : Int), rfl, rfl, SqL.of (s1 _ _ hna), rfl, _, rfl, pa, A.Project, dx, _, _, rfl, s1 _ _ pj.ob, T.clP, T.nP_files, projF_files _ _ _ _, df, o, rfl, go, _, rfl, _, _, rfl, ?_, ?_⟩
    case refine_2 =>
      intro hn
      rw [ho] at hn
      exact (kf (-3) (by decide) (step_miss h0 rfl hf hn)).after s1
    intro y2
    rw [ho] at y2
    refine ⟨_, rfl, by show 4 ≤ sizeLine; decide, fun q2 hq2 => ?_⟩
    have s2 := s1.trans (Same.new (o := .tup [.int 1, .int 2, .int 13, .int 14]) hq2)
    refine ⟨q2, _, rfl, .inr (SqT.of upd_same), rfl, rfl, _, rfl, iteF ?_⟩
    generalize upd (upd H q (.tup [.int 1, .int 4, .int 13])) q2 (.tup [.int 1, .int 2, .int 13, .int 14]) = H2 at s2
    refine ⟨_, rfl, rfl, _, rfl, iteF ?_⟩
    refine ⟨_, rfl, rfl, _, rfl, iteF ?_⟩
    refine ⟨_, rfl, rfl, _, rfl, iteF ?_⟩
    refine ⟨_, rfl, rfl, _, rfl, iteF ?_⟩
    refine ⟨_, rfl, _, rfl, _, rfl, _, rfl, pa, na, ra, s, f, .touched (f : Int) a, rfl, s2 _ _ hna, rfl, hf, pj0.same s2, rs, h0, rfl, .inr y2, ro.same s2, fun c hc e => (kf c hc e).after s2, fun s' l e H' r sl => k s' l e H' r ((SameL.of s2).trans sl)⟩
  case cut n g =>
    refine ⟨_, rfl, A.withn, _, rfl, .inr (sqT_any T.withn), rfl, rfl, _, rfl, iteT ?_⟩
    refine ⟨_, rfl, na, _, 0, .int n, rfl, rfl, SqL.of hna, rfl, _, _, rfl, rfl, _, rfl, ?_⟩
    refine ite2 (fun c1 => ?_) (fun c1 => ⟨_, rfl, false, -1, rfl, (fun z => by cases z), fun _ => kf (-1) (by decide) (step_num h0 rfl (by rw [← Bool.not_eq_true, num_iff]; exact fun h => c1 (decide_eq_true h.1)))⟩)
    have h1 : 0 ≤ n := of_decide_eq_true c1
    refine ⟨_, _, rfl, rfl, _, rfl, _, _, rfl, ?_, fun hn => kf (-1) (by decide) (step_num h0 rfl (by rw [← Bool.not_eq_true, num_iff]; exact fun h => of_decide_eq_false hn h.2))⟩
    intro y1
    have h2 : n ≤ 9 := of_decide_eq_true y1
    obtain ⟨f, rfl⟩ := Int.eq_ofNat_of_zero_le h1
    have hf : f < 10 := by omega
    refine ⟨_, rfl, by show 3 ≤ sizeLine; decide, fun q hq => ?_⟩
    have s1 : Same H (upd H q (.tup [.int 1, .int 4, .int 13])) := Same.new hq
    refine ⟨q, _, rfl, .inr (SqT.of upd_same), rfl, rfl, _, rfl, ?_⟩
    refine iteF ?_
    obtain ⟨o, go, ho⟩ := (fa.same s1).has f
    refine ⟨_, rfl, na, _, 0, .int (f : Int), rfl, rfl, SqL.of (s1 _ _ hna), rfl, _, rfl, pa, A.Project, dx, _, _, rfl, s1 _ _ pj.ob, T.clP, T.nP_files, projF_files _ _ _ _, df, o, rfl, go, _, rfl, _, _, rfl, ?_, ?_⟩
    case refine_2 =>
      intro hn
      rw [ho] at hn
      exact (kf (-3) (by decide) (step_miss h0 rfl hf hn)).after s1
    intro y2
    rw [ho] at y2
    refine ⟨_, rfl, by show 4 ≤ sizeLine; decide, fun q2 hq2 => ?_⟩
    have s2 := s1.trans (Same.new (o := .tup [.int 1, .int 2, .int 13, .int 14]) hq2)
    refine ⟨q2, _, rfl, .inr (SqT.of upd_same), rfl, rfl, _, rfl, iteF ?_⟩
    generalize upd (upd H q (.tup [.int 1, .int 4, .int 13])) q2 (.tup [.int 1, .int 2, .int 13, .int 14]) = H2 at s2
    refine ⟨_, rfl, rfl, _, rfl, iteF ?_⟩
    refine ⟨_, rfl, rfl, _, rfl, iteF ?_⟩
    refine ⟨_, rfl, rfl, _, rfl, iteF ?_⟩
    refine ⟨_, rfl, rfl, _, rfl, iteF ?_⟩
    refine ⟨_, rfl, _, rfl, _, rfl, _, rfl, pa, na, ra, s, f, .cut (f : Int) g, rfl, s2 _ _ hna, rfl, hf, pj0.same s2, rs, h0, rfl, .inr y2, ro.same s2, fun c hc e => (kf c hc e).after s2, fun s' l e H' r sl => k s' l e H' r ((SameL.of s2).trans sl)⟩
  case checkCut n g l =>
    refine ⟨_, rfl, A.withn, _, rfl, .inr (sqT_any T.withn), rfl, rfl, _, rfl, iteT ?_⟩
    refine ⟨_, rfl, na, _, 0, .int n, rfl, rfl, SqL.of hna, rfl, _, _, rfl, rfl, _, rfl, ?_⟩
    refine ite2 (fun c1 => ?_) (fun c1 => ⟨_, rfl, false, -1, rfl, (fun z => by cases z), fun _ => kf (-1) (by decide) (step_num h0 rfl (by rw [← Bool.not_eq_true, num_iff]; exact fun h => c1 (decide_eq_true h.1)))⟩)
    have h1 : 0 ≤ n := of_decide_eq_true c1
    refine ⟨_, _, rfl, rfl, _, rfl, _, _, rfl, ?_, fun hn => kf (-1) (by decide) (step_num h0 rfl (by rw [← Bool.not_eq_true, num_iff]; exact fun h => of_decide_eq_false hn h.2))⟩
    intro y1
    have h2 : n ≤ 9 := of_decide_eq_true y1
    obtain ⟨f, rfl⟩ := Int.eq_ofNat_of_zero_le h1
    have hf : f < 10 := by omega
    refine ⟨_, rfl, by show 3 ≤ sizeLine; decide, fun q hq => ?_⟩
    have s1 : Same H (upd H q (.tup [.int 1, .int 4, .int 13])) := Same.new hq
    refine ⟨q, _, rfl, .inr (SqT.of upd_same), rfl, rfl, _, rfl, ?_⟩
    refine iteF ?_
    obtain ⟨o, go, ho⟩ := (fa.same s1).has f
    refine ⟨_, rfl, na, _, 0, .int (f : Int), rfl, rfl, SqL.of (s1 _ _ hna), rfl, _, rfl, pa, A.Project, dx, _, _, rfl, s1 _ _ pj.ob, T.clP, T.nP_files, projF_files _ _ _ _, df, o, rfl, go, _, rfl, _, _, rfl, ?_, ?_⟩
    case refine_2 =>
      intro hn
      rw [ho] at hn
      exact (kf (-3) (by decide) (step_miss h0 rfl hf hn)).after s1
    intro y2
    rw [ho] at y2
    refine ⟨_, rfl, by show 4 ≤ sizeLine; decide, fun q2 hq2 => ?_⟩
    have s2 := s1.trans (Same.new (o := .tup [.int 1, .int 2, .int 13, .int 14]) hq2)
    refine ⟨q2, _, rfl, .inr (SqT.of upd_same), rfl, rfl, _, rfl, iteF ?_⟩
    generalize upd (upd H q (.tup [.int 1, .int 4, .int 13])) q2 (.tup [.int 1, .int 2, .int 13, .int 14]) = H2 at s2
    refine ⟨_, rfl, rfl, _, rfl, iteF ?_⟩
    refine ⟨_, rfl, rfl, _, rfl, iteF ?_⟩
    refine ⟨_, rfl, rfl, _, rfl, iteF ?_⟩
    refine ⟨_, rfl, rfl, _, rfl, iteF ?_⟩
    refine ⟨_, rfl, _, rfl, _, rfl, _, rfl, pa, na, ra, s, f, .checkCut (f : Int) g l, rfl, s2 _ _ hna, rfl, hf, pj0.same s2, rs, h0, rfl, .inr y2, ro.same s2, fun c hc e => (kf c hc e).after s2, fun s' l e H' r sl => k s' l e H' r ((SameL.of s2).trans sl)⟩
  case seers n =>
    refine ⟨_, rfl, A.withn, _, rfl, .inr (sqT_any T.withn), rfl, rfl, _, rfl, iteT ?_⟩
    refine ⟨_, rfl, na, _, 0, .int n, rfl, rfl, SqL.of hna, rfl, _, _, rfl, rfl, _, rfl, ?_⟩
    refine ite2 (fun c1 => ?_) (fun c1 => ⟨_, rfl, false, -1, rfl, (fun z => by cases z), fun _ => kf (-1) (by decide) (step_num h0 rfl (by rw [← Bool.not_eq_true, num_iff]; exact fun h => c1 (decide_eq_true h.1)))⟩)
    have h1 : 0 ≤ n := of_decide_eq_true c1
    refine ⟨_, _, rfl, rfl, _, rfl, _, _, rfl, ?_, fun hn => kf (-1) (by decide) (step_num h0 rfl (by rw [← Bool.not_eq_true, num_iff]; exact fun h => of_decide_eq_false hn h.2))⟩
    intro y1
    have h2 : n ≤ 9 := of_decide_eq_true y1
    obtain ⟨f, rfl⟩ := Int.eq_ofNat_of_zero_le h1
    have hf : f < 10 := by omega
    refine ⟨_, rfl, by show 3 ≤ sizeLine; decide, fun q hq => ?_⟩
    have s1 : Same H (upd H q (.tup [.int 1, .int 4, .int 13])) := Same.new hq
    refine ⟨q, _, rfl, .inr (SqT.of upd_same), rfl, rfl, _, rfl, ?_⟩
    refine iteT ?_
    refine ⟨_, rfl, true, -3, rfl, ?_, fun z => by cases z⟩
    intro _
    refine ⟨_, rfl, by show 4 ≤ sizeLine; decide, fun q2 hq2 => ?_⟩
    have s2 := s1.trans (Same.new (o := .tup [.int 1, .int 2, .int 13, .int 14]) hq2)
    refine ⟨q2, _, rfl, .inr (SqT.of upd_same), rfl, rfl, _, rfl, iteF ?_⟩
    generalize upd (upd H q (.tup [.int 1, .int 4, .int 13])) q2 (.tup [.int 1, .int 2, .int 13, .int 14]) = H2 at s2
    refine ⟨_, rfl, rfl, _, rfl, iteF ?_⟩
    refine ⟨_, rfl, rfl, _, rfl, iteF ?_⟩
    refine ⟨_, rfl, rfl, _, rfl, iteF ?_⟩
    refine ⟨_, rfl, rfl, _, rfl, iteF ?_⟩
    refine ⟨_, rfl, _, rfl, _, rfl, _, rfl, pa, na, ra, s, f, .seers (f : Int), rfl, s2 _ _ hna, rfl, hf, pj0.same s2, rs, h0, rfl, .inl rfl, ro.same s2, fun c hc e => (kf c hc e).after s2, fun s' l e H' r sl => k s' l e H' r ((SameL.of s2).trans sl)⟩
  case remove n =>
    refine ⟨_, rfl, A.withn, _, rfl, .inr (sqT_any T.withn), rfl, rfl, _, rfl, iteT ?_⟩
    refine ⟨_, rfl, na, _, 0, .int n, rfl, rfl, SqL.of hna, rfl, _, _, rfl, rfl, _, rfl, ?_⟩
    refine ite2 (fun c1 => ?_) (fun c1 => ⟨_, rfl, false, -1, rfl, (fun z => by cases z), fun _ => kf (-1) (by decide) (step_num h0 rfl (by rw [← Bool.not_eq_true, num_iff]; exact fun h => c1 (decide_eq_true h.1)))⟩)
    have h1 : 0 ≤ n := of_decide_eq_true c1
    refine ⟨_, _, rfl, rfl, _, rfl, _, _, rfl, ?_, fun hn => kf (-1) (by decide) (step_num h0 rfl (by rw [← Bool.not_eq_true, num_iff]; exact fun h => of_decide_eq_false hn h.2))⟩
    intro y1
    have h2 : n ≤ 9 := of_decide_eq_true y1
    obtain ⟨f, rfl⟩ := Int.eq_ofNat_of_zero_le h1
    have hf : f < 10 := by omega
    refine ⟨_, rfl, by show 3 ≤ sizeLine; decide, fun q hq => ?_⟩
    have s1 : Same H (upd H q (.tup [.int 1, .int 4, .int 13])) := Same.new hq
    refine ⟨q, _, rfl, .inr (SqT.of upd_same), rfl, rfl, _, rfl, ?_⟩
    refine iteF ?_
    obtain ⟨o, go, ho⟩ := (fa.same s1).has f
    refine ⟨_, rfl, na, _, 0, .int (f : Int), rfl, rfl, SqL.of (s1 _ _ hna), rfl, _, rfl, pa, A.Project, dx, _, _, rfl, s1 _ _ pj.ob, T.clP, T.nP_files, projF_files _ _ _ _, df, o, rfl, go, _, rfl, _, _, rfl, ?_, ?_⟩
    case refine_2 =>
      intro hn
      rw [ho] at hn
      exact (kf (-3) (by decide) (step_miss h0 rfl hf hn)).after s1
    intro y2
    rw [ho] at y2
    refine ⟨_, rfl, by show 4 ≤ sizeLine; decide, fun q2 hq2 => ?_⟩
    have s2 := s1.trans (Same.new (o := .tup [.int 1, .int 2, .int 13, .int 14]) hq2)
    refine ⟨q2, _, rfl, .inr (SqT.of upd_same), rfl, rfl, _, rfl, iteT ?_⟩
    generalize upd (upd H q (.tup [.int 1, .int 4, .int 13])) q2 (.tup [.int 1, .int 2, .int 13, .int 14]) = H2 at s2
    refine ⟨_, rfl, _, rfl, _, rfl, _, rfl, pa, na, ra, 2, f, [], s, rfl, hf, pj0.same s2, s2 _ _ hna, .inl ⟨.inl rfl, y2, fun H' r s' sl es pj' e => ?_⟩⟩
    subst es
    refine k _ _ ?_ H' r ((SameL.of s2).trans sl) pj' e
    simp [Vbjbaj.step, h0, num_nat hf, y2, Vbjbaj.changed]
  case wouldRemove n =>
    refine ⟨_, rfl, A.withn, _, rfl, .inr (sqT_any T.withn), rfl, rfl, _, rfl, iteT ?_⟩
    refine ⟨_, rfl, na, _, 0, .int n, rfl, rfl, SqL.of hna, rfl, _, _, rfl, rfl, _, rfl, ?_⟩
    refine ite2 (fun c1 => ?_) (fun c1 => ⟨_, rfl, false, -1, rfl, (fun z => by cases z), fun _ => kf (-1) (by decide) (step_num h0 rfl (by rw [← Bool.not_eq_true, num_iff]; exact fun h => c1 (decide_eq_true h.1)))⟩)
    have h1 : 0 ≤ n := of_decide_eq_true c1
    refine ⟨_, _, rfl, rfl, _, rfl, _, _, rfl, ?_, fun hn => kf (-1) (by decide) (step_num h0 rfl (by rw [← Bool.not_eq_true, num_iff]; exact fun h => of_decide_eq_false hn h.2))⟩
    intro y1
    have h2 : n ≤ 9 := of_decide_eq_true y1
    obtain ⟨f, rfl⟩ := Int.eq_ofNat_of_zero_le h1
    have hf : f < 10 := by omega
    refine ⟨_, rfl, by show 3 ≤ sizeLine; decide, fun q hq => ?_⟩
    have s1 : Same H (upd H q (.tup [.int 1, .int 4, .int 13])) := Same.new hq
    refine ⟨q, _, rfl, .inr (SqT.of upd_same), rfl, rfl, _, rfl, ?_⟩
    refine iteF ?_
    obtain ⟨o, go, ho⟩ := (fa.same s1).has f
    refine ⟨_, rfl, na, _, 0, .int (f : Int), rfl, rfl, SqL.of (s1 _ _ hna), rfl, _, rfl, pa, A.Project, dx, _, _, rfl, s1 _ _ pj.ob, T.clP, T.nP_files, projF_files _ _ _ _, df, o, rfl, go, _, rfl, _, _, rfl, ?_, ?_⟩
    case refine_2 =>
      intro hn
      rw [ho] at hn
      exact (kf (-3) (by decide) (step_miss h0 rfl hf hn)).after s1
    intro y2
    rw [ho] at y2
    refine ⟨_, rfl, by show 4 ≤ sizeLine; decide, fun q2 hq2 => ?_⟩
    have s2 := s1.trans (Same.new (o := .tup [.int 1, .int 2, .int 13, .int 14]) hq2)
    refine ⟨q2, _, rfl, .inr (SqT.of upd_same), rfl, rfl, _, rfl, iteT ?_⟩
    generalize upd (upd H q (.tup [.int 1, .int 4, .int 13])) q2 (.tup [.int 1, .int 2, .int 13, .int 14]) = H2 at s2
    refine ⟨_, rfl, _, rfl, _, rfl, _, rfl, pa, na, ra, 14, f, [], s, rfl, hf, pj0.same s2, s2 _ _ hna, .inl ⟨.inr rfl, y2, fun H' r s' sl es pj' e => ?_⟩⟩
    subst es
    refine k _ _ ?_ H' r ((SameL.of s2).trans sl) pj' e
    obtain ⟨x, hx⟩ := doesExist_iff.mp y2
    exact (wf_step (by unfold Vbjbaj.step; rfl) h0 hf hx).trans rfl
  case file n a b c =>
    refine ⟨_, rfl, A.withn, _, rfl, .inr (sqT_any T.withn), rfl, rfl, _, rfl, iteT ?_⟩
    refine ⟨_, rfl, na, _, 0, .int n, rfl, rfl, SqL.of hna, rfl, _, _, rfl, rfl, _, rfl, ?_⟩
    refine ite2 (fun c1 => ?_) (fun c1 => ⟨_, rfl, false, -1, rfl, (fun z => by cases z), fun _ => kf (-1) (by decide) (step_num h0 rfl (by rw [← Bool.not_eq_true, num_iff]; exact fun h => c1 (decide_eq_true h.1)))⟩)
    have h1 : 0 ≤ n := of_decide_eq_true c1
    refine ⟨_, _, rfl, rfl, _, rfl, _, _, rfl, ?_, fun hn => kf (-1) (by decide) (step_num h0 rfl (by rw [← Bool.not_eq_true, num_iff]; exact fun h => of_decide_eq_false hn h.2))⟩
    intro y1
    have h2 : n ≤ 9 := of_decide_eq_true y1
    obtain ⟨f, rfl⟩ := Int.eq_ofNat_of_zero_le h1
    have hf : f < 10 := by omega
    refine ⟨_, rfl, by show 3 ≤ sizeLine; decide, fun q hq => ?_⟩
    have s1 : Same H (upd H q (.tup [.int 1, .int 4, .int 13])) := Same.new hq
    refine ⟨q, _, rfl, .inr (SqT.of upd_same), rfl, rfl, _, rfl, ?_⟩
    refine iteT ?_
    refine ⟨_, rfl, true, -3, rfl, ?_, fun z => by cases z⟩
    intro _
    refine ⟨_, rfl, by show 4 ≤ sizeLine; decide, fun q2 hq2 => ?_⟩
    have s2 := s1.trans (Same.new (o := .tup [.int 1, .int 2, .int 13, .int 14]) hq2)
    refine ⟨q2, _, rfl, .inr (SqT.of upd_same), rfl, rfl, _, rfl, iteT ?_⟩
    generalize upd (upd H q (.tup [.int 1, .int 4, .int 13])) q2 (.tup [.int 1, .int 2, .int 13, .int 14]) = H2 at s2
    obtain ⟨as, hra, ras, hlen⟩ := ro.same s2
    obtain ⟨a1, a2, a3, rfl, r1, r2, r3⟩ : ∃ a1 a2 a3, as = [a1, a2, a3] ∧ H2 a1 = some (.lst (rV a)) ∧ H2 a2 = some (.lst (rV b)) ∧ H2 a3 = some (.lst (rV c)) := by
      cases ras with
      | cons e1 t =>
        cases t with
        | cons e2 t =>
          cases t with
          | cons e3 t => cases t; exact ⟨_, _, _, rfl, e1, e2, e3⟩
    refine ⟨_, rfl, _, rfl, _, rfl, _, rfl, pa, na, ra, 1, f, [], s, rfl, hf, pj0.same s2, s2 _ _ hna, .inr ⟨.inl rfl, a, b, c, ⟨a1, a2, a3, hra, r1, r2, r3, hlen a (by simp [enc]), hlen b (by simp [enc]), hlen c (by simp [enc])⟩, fun hn => ?_, fun x hx H' r s' sl es pj' e => ?_⟩⟩
    · refine (kf (-1) (by decide) ?_).after s2
      simp [Vbjbaj.step, h0, num_nat hf, hn]
    · subst es
      refine k _ _ ?_ H' r ((SameL.of s2).trans sl) pj' e
      simp [Vbjbaj.step, h0, num_nat hf, hx, Vbjbaj.changed]
  case would n a b c =>
    refine ⟨_, rfl, A.withn, _, rfl, .inr (sqT_any T.withn), rfl, rfl, _, rfl, iteT ?_⟩
    refine ⟨_, rfl, na, _, 0, .int n, rfl, rfl, SqL.of hna, rfl, _, _, rfl, rfl, _, rfl, ?_⟩
    refine ite2 (fun c1 => ?_) (fun c1 => ⟨_, rfl, false, -1, rfl, (fun z => by cases z), fun _ => kf (-1) (by decide) (step_num h0 rfl (by rw [← Bool.not_eq_true, num_iff]; exact fun h => c1 (decide_eq_true h.1)))⟩)
    have h1 : 0 ≤ n := of_decide_eq_true c1
    refine ⟨_, _, rfl, rfl, _, rfl, _, _, rfl, ?_, fun hn => kf (-1) (by decide) (step_num h0 rfl (by rw [← Bool.not_eq_true, num_iff]; exact fun h => of_decide_eq_false hn h.2))⟩
    intro y1
    have h2 : n ≤ 9 := of_decide_eq_true y1
    obtain ⟨f, rfl⟩ := Int.eq_ofNat_of_zero_le h1
    have hf : f < 10 := by omega
    refine ⟨_, rfl, by show 3 ≤ sizeLine; decide, fun q hq => ?_⟩
    have s1 : Same H (upd H q (.tup [.int 1, .int 4, .int 13])) := Same.new hq
    refine ⟨q, _, rfl, .inr (SqT.of upd_same), rfl, rfl, _, rfl, ?_⟩
    refine iteT ?_
    refine ⟨_, rfl, true, -3, rfl, ?_, fun z => by cases z⟩
    intro _
    refine ⟨_, rfl, by show 4 ≤ sizeLine; decide, fun q2 hq2 => ?_⟩
    have s2 := s1.trans (Same.new (o := .tup [.int 1, .int 2, .int 13, .int 14]) hq2)
    refine ⟨q2, _, rfl, .inr (SqT.of upd_same), rfl, rfl, _, rfl, iteT ?_⟩
    generalize upd (upd H q (.tup [.int 1, .int 4, .int 13])) q2 (.tup [.int 1, .int 2, .int 13, .int 14]) = H2 at s2
    obtain ⟨as, hra, ras, hlen⟩ := ro.same s2
    obtain ⟨a1, a2, a3, rfl, r1, r2, r3⟩ : ∃ a1 a2 a3, as = [a1, a2, a3] ∧ H2 a1 = some (.lst (rV a)) ∧ H2 a2 = some (.lst (rV b)) ∧ H2 a3 = some (.lst (rV c)) := by
      cases ras with
      | cons e1 t =>
        cases t with
        | cons e2 t =>
          cases t with
          | cons e3 t => cases t; exact ⟨_, _, _, rfl, e1, e2, e3⟩
    refine ⟨_, rfl, _, rfl, _, rfl, _, rfl, pa, na, ra, 13, f, [], s, rfl, hf, pj0.same s2, s2 _ _ hna, .inr ⟨.inr rfl, a, b, c, ⟨a1, a2, a3, hra, r1, r2, r3, hlen a (by simp [enc]), hlen b (by simp [enc]), hlen c (by simp [enc])⟩, fun hn => ?_, fun x hx H' r s' sl es pj' e => ?_⟩⟩
    · refine (kf (-1) (by decide) ?_).after s2
      simp [Vbjbaj.step, h0, num_nat hf, hn]
    · subst es
      refine k _ _ ?_ H' r ((SameL.of s2).trans sl) pj' e
      simp [Vbjbaj.step, h0, num_nat hf, hx]
  case pending =>
    refine ⟨_, rfl, A.withn, _, rfl, .inr (sqT_any T.withn), rfl, rfl, _, rfl, iteF ?_⟩
    refine ⟨_, rfl, by show 4 ≤ sizeLine; decide, fun q2 hq2 => ?_⟩
    have s2 : Same H (upd H q2 (.tup [.int 1, .int 2, .int 13, .int 14])) := Same.new hq2
    refine ⟨q2, _, rfl, .inr (SqT.of upd_same), rfl, rfl, _, rfl, iteF ?_⟩
    generalize upd H q2 (.tup [.int 1, .int 2, .int 13, .int 14]) = H2 at s2
    refine ⟨_, rfl, rfl, _, rfl, iteT ?_⟩
    have lp := pending_len (p := s.project) (r := s.readings)
    refine ⟨_, rfl, pa, dx, _, rfl, s2 _ _ pj.ob, projF_none (by decide +kernel) (by decide +kernel) (by decide +kernel) (by decide +kernel) _ _ _ _, _, rfl, pa, A.Project, dx, _, _, rfl, s2 _ _ pj.ob, T.clP, T.nP_files, projF_files _ _ _ _, pa, df, dx, df, kd, bl, s.tokens, s.tokens, s.project, s.readings, rfl, s2 _ _ pj.ob, pj.ke.same s2, ok.pw, fa.same s2, fun H5 q5 s5 _ e5 => ?_⟩
    refine ⟨q5, _, rfl, .inl (SqL.of e5), by omega, fun H6 r6 s6 _ e6 => k s _ ?_ H6 r6 (SameL.of ((s2.trans s5).trans s6)) (pj0.same ((s2.trans s5).trans s6)) e6⟩
    simp [Vbjbaj.step, h0]
  case readAll =>
    refine ⟨_, rfl, A.withn, _, rfl, .inr (sqT_any T.withn), rfl, rfl, _, rfl, iteF ?_⟩
    refine ⟨_, rfl, by show 4 ≤ sizeLine; decide, fun q2 hq2 => ?_⟩
    have s2 : Same H (upd H q2 (.tup [.int 1, .int 2, .int 13, .int 14])) := Same.new hq2
    refine ⟨q2, _, rfl, .inr (SqT.of upd_same), rfl, rfl, _, rfl, iteF ?_⟩
    generalize upd H q2 (.tup [.int 1, .int 2, .int 13, .int 14]) = H2 at s2
    refine ⟨_, rfl, rfl, _, rfl, iteF ?_⟩
    refine ⟨_, rfl, rfl, _, rfl, iteT ?_⟩
    refine ⟨_, rfl, pa, s, rfl, pj0.same s2, fun H' r sl pj' e => k _ _ ?_ H' r ((SameL.of s2).trans sl) pj' e⟩
    simp [Vbjbaj.step, h0]
  case rings =>
    refine ⟨_, rfl, A.withn, _, rfl, .inr (sqT_any T.withn), rfl, rfl, _, rfl, iteF ?_⟩
    refine ⟨_, rfl, by show 4 ≤ sizeLine; decide, fun q2 hq2 => ?_⟩
    have s2 : Same H (upd H q2 (.tup [.int 1, .int 2, .int 13, .int 14])) := Same.new hq2
    refine ⟨q2, _, rfl, .inr (SqT.of upd_same), rfl, rfl, _, rfl, iteF ?_⟩
    generalize upd H q2 (.tup [.int 1, .int 2, .int 13, .int 14]) = H2 at s2
    refine ⟨_, rfl, rfl, _, rfl, iteF ?_⟩
    refine ⟨_, rfl, rfl, _, rfl, iteF ?_⟩
    refine ⟨_, rfl, rfl, _, rfl, iteT ?_⟩
    refine ⟨_, rfl, pa, s, rfl, pj0.same s2, fun H' r s3 e => k s _ ?_ H' r (SameL.of (s2.trans s3)) (pj0.same (s2.trans s3)) e⟩
    simp [Vbjbaj.step, h0]
  case undo =>
    refine ⟨_, rfl, A.withn, _, rfl, .inr (sqT_any T.withn), rfl, rfl, _, rfl, iteF ?_⟩
    refine ⟨_, rfl, by show 4 ≤ sizeLine; decide, fun q2 hq2 => ?_⟩
    have s2 : Same H (upd H q2 (.tup [.int 1, .int 2, .int 13, .int 14])) := Same.new hq2
    refine ⟨q2, _, rfl, .inr (SqT.of upd_same), rfl, rfl, _, rfl, iteF ?_⟩
    generalize upd H q2 (.tup [.int 1, .int 2, .int 13, .int 14]) = H2 at s2
    refine ⟨_, rfl, rfl, _, rfl, iteF ?_⟩
    refine ⟨_, rfl, rfl, _, rfl, iteF ?_⟩
    refine ⟨_, rfl, rfl, _, rfl, iteF ?_⟩
    refine ⟨_, rfl, rfl, _, rfl, iteT ?_⟩
    refine ⟨_, rfl, pa, s, rfl, pj0.same s2, fun hp => ?_, fun p rest hp H' r sl pj' e => k _ _ ?_ H' r ((SameL.of s2).trans sl) pj' e⟩
    · refine (kf (-5) (by decide) ?_).after s2
      simp [Vbjbaj.step, h0, hp]
    · simp [Vbjbaj.step, h0, hp]
end
end Sf
/-! W30: answer_of. -/
namespace Sf
open PySem PySem.Spec PyProof.Rows L2
open Vbjbaj (Statement File Project State Readings)
/-- the project's list of earlier ones is not the list at b -/
def PjN (A : Ad) (H : Hp) (pa : Addr) (s : State) (b : Addr) : Prop := ∃ dx df kd bl, PjI A H pa dx df kd bl s ∧ bl ≠ b
theorem PjN.same {A : Ad} {H H' : Hp} {pa b : Addr} {s : State} (e : Same H H') (h : PjN A H pa s b) : PjN A H' pa s b := by
  obtain ⟨dx, df, kd, bl, h1, h2⟩ := h
  exact ⟨dx, df, kd, bl, h1.same e, h2⟩
theorem frL {H H' : Hp} {q : Addr} (s : SameL H H') (hq : H' q = none) : ∀ xs, H q ≠ some (.lst xs) := fun xs z => by
  have := (s _ _).1 z
  rw [hq] at this
  cases this
theorem enc_ne {c : Vbjbaj.Call} (h : doneCall c = true) : (enc c).1 ≠ 0 ∧ (enc c).1 ≠ 21 := by cases c <;> simp [enc, doneCall] at h ⊢
section
variable {P : Program} {w : World} {K : PySem.W.Frag} {mg : Str → Option Value} {base : Heap} {A : Ad}
def sp_Project_make (A : Ad) : Sp := fun vs H Q _ => ∃ (pa dx : Addr) (t : Nat), vs = [.ref pa, .int (t : Int)] ∧ t ≤ 20 ∧ H pa = some (.ins A.Project dx []) ∧ ∀ H' df kd bl, (∀ b o, b ≠ pa → H b = some o → H' b = some o) → StOk { Vbjbaj.initialState with tokens := t } → H bl = none → PjI A H' pa dx df kd bl { Vbjbaj.initialState with tokens := t } → Q .non H'
theorem ok_Project_make (T : Txt K mg A) {f : Addr} {fd : FuncData} (F : Fun K "__init__" "Project.__init__" s_Project_init f fd) : FnOk P w K mg base CX0 1 f fd ["self", "tokens"] (sp_Project_make A) := by
  refine F.ok sc_Project_init (fun vs H Q E h => by obtain ⟨pa, dx, t, rfl, _⟩ := h; rfl) (fun cdv A' outer s H vs Q E hr h => ?_)
  refine ⟨_, (pss_cons (ps_fld (pv 0) (pv 1) rfl)
(pss_cons (ps_fld (pv 0) pe_dnewK rfl)
(pss_cons (ps_fld (pv 0) pe_dnewK rfl)
(pss_one (ps_fld (pv 0) (pe_lst pa_nil) rfl))))), ?_⟩
  obtain ⟨pa, dx, t, rfl, ht, ho, k⟩ := h
  refine ⟨_, rfl, _, rfl, pa, A.Project, dx, [], rfl, ho, T.clP, T.nP_tokens, (by show 0 < 1000; decide), ?_⟩
  intro df hdf
  have n1 : df ≠ pa := fun z => by rw [z, upd_same] at hdf; cases hdf
  refine ⟨_, rfl, pa, A.Project, dx, _, rfl, by rw [upd_ne n1.symm, upd_same], T.clP, T.nP_files, (by show 1 < 1000; decide), ?_⟩
  intro kd hkd
  have n2 : kd ≠ pa := fun z => by rw [z, upd_same] at hkd; cases hkd
  have n3 : kd ≠ df := fun z => by rw [z, upd_ne n1, upd_same] at hkd; cases hkd
  refine ⟨_, rfl, pa, A.Project, dx, _, rfl, by rw [upd_ne n2.symm, upd_same], T.clP, T.nP_kept, (by show 2 < 1000; decide), ?_⟩
  refine ⟨by show 0 ≤ sizeLine; decide, fun bl hbl => ?_⟩
  have n4 : bl ≠ pa := fun z => by rw [z, upd_same] at hbl; cases hbl
  have n5 : bl ≠ kd := fun z => by rw [z, upd_ne n2, upd_same] at hbl; cases hbl
  have n6 : bl ≠ df := fun z => by rw [z, upd_ne n1, upd_ne n3.symm, upd_ne n1, upd_same] at hbl; cases hbl
  refine ⟨_, rfl, pa, A.Project, dx, _, rfl, by rw [upd_ne n4.symm, upd_same], T.clP, T.nP_before, (by show 3 < 1000; decide), ?_⟩
  have hdf0 : H df = none := by rwa [upd_ne n1] at hdf
  have hkd0 : H kd = none := by rwa [upd_ne n2, upd_ne n3, upd_ne n2] at hkd
  have hbl0 : H bl = none := by rwa [upd_ne n4, upd_ne n5, upd_ne n4, upd_ne n6, upd_ne n4] at hbl
  refine k _ df kd bl (fun b o hb e => ?_) (stOk_init ht) hbl0 ⟨?_, ?_, ?_, ?_, n3.symm⟩
  · have m1 := ne_of_none e hdf0
    have m2 := ne_of_none e hkd0
    have m3 := ne_of_none e hbl0
    rw [upd_ne hb, upd_ne m3, upd_ne hb, upd_ne m2, upd_ne hb, upd_ne m1, upd_ne hb]
    exact e
  · rw [upd_same, put_proj]
    rfl
  · refine ⟨[], by rw [upd_ne n1, upd_ne n6.symm, upd_ne n1, upd_ne n3.symm, upd_ne n1, upd_same], .nil, ⟨[], rfl, fun f => ?_⟩, fun f x e => ?_⟩
    · show f ∈ [] ↔ (Vbjbaj.fileAt Vbjbaj.noFiles f).isSome = true
      rw [noFiles_at]
      simp
    · have e' : Vbjbaj.fileAt Vbjbaj.noFiles f = some x := e
      rw [noFiles_at] at e'
      cases e'
  · refine ⟨[], [], by rw [upd_ne n2, upd_ne n5.symm, upd_ne n2, upd_same], rfl, .nil, fun g hg => by simp at hg, fun f hf => .inl ⟨?_, rfl⟩⟩
    show (List.replicate Vbjbaj.maxFiles none).getD f none = none
    rw [List.getD_eq_getElem?_getD, List.getElem?_replicate]
    split <;> rfl
  · exact ⟨[], by rw [upd_ne n4, upd_same], .nil⟩
def sp_answer_of (A : Ad) : Sp := fun vs H Q _ => ∃ (pa na ra b : Addr) (s : State) (call : Vbjbaj.Call), vs = [.ref pa, .int ((enc call).1 : Int), .ref na, .ref ra] ∧ H na = some (.lst (rV (enc call).2.1)) ∧ PjAt A H pa s ∧ RsOk s ∧ RowsH H ra (enc call).2.2 ∧ (Vbjbaj.step s call).2.length ≤ 10000000 ∧ (∃ xs, H b = some (.lst xs)) ∧ (s.tokens = 0 → PjN A H pa s b) ∧
  ∀ H' r pa' ra', SameL H H' → (∀ xs, H ra' ≠ some (.lst xs)) → H' r = some (.tup [.ref pa', .ref ra']) → PjAt A H' pa' (Vbjbaj.step s call).1 → (s.tokens = 0 → PjN A H' pa' (Vbjbaj.step s call).1 b) → H' ra' = some (.lst (rV (Vbjbaj.step s call).2)) → Q (.ref r) H'
def t_body (K : PySem.W.Frag) (A : Ad) (W : WX) : TS :=
  tSeq (tIfS (tTest (tOp rEq (tVar 1) (tC (.int 0)))) (tSeq (tDrop (tCallS (sp_need A) (WE W) (tCons (tChain rLeI rLeI (tC (.int 1)) (tOp (rIxL K) (tVar 2) (tC (.int 0))) (tC (.int 20))) (tCons (tUn rNegI (tC (.int 1))) tNil)))) (tRet (tTup (tCons (tMake A.Project (sp_Project_make A) [] E0 (tCons (tOp (rIxL K) (tVar 2) (tC (.int 0))) tNil)) (tCons (tLst (tCons (tC (.int 0)) (tCons (tOp (rIxL K) (tVar 2) (tC (.int 0))) tNil))) tNil))))) tNext)
  (tSeq (tIfS (tTest (tOp rEq (tVar 1) (tC (.int 21)))) (tRet (tTup (tCons (tVar 0) (tCons (tOp rCat (tLst (tCons (tC (.int 0)) tNil)) (tCall (sp_summary A) [] E0 (tCons (tVar 0) tNil))) tNil)))) tNext)
  (tRet (tTup (tCons (tVar 0) (tCons (tOp rCat (tLst (tCons (tC (.int 0)) tNil)) (tCallS (sp_done A) (WE W) (tCons (tVar 0) (tCons (tVar 1) (tCons (tVar 2) (tCons (tVar 3) tNil)))))) tNil)))))
def t_except (A : Ad) (a : Addr) (cls : Value) (d : Option Addr) : TS := tRet (tTup (tCons (tVar 0) (tCons (tLst (tCons (tXf a cls d A.Refused "code" (tVar 4)) tNil)) tNil)))
theorem ok_answer_of (T : Txt K mg A) (M_Project : MkC P w K mg base 1 "Project" A.Project ["self", "tokens"] (sp_Project_make A)) (C_need : Cal P w K mg base (L2.CX P w) 3 "need" ["is_right", "code"] (sp_need A)) (C_summary : Cal P w K mg base CX0 8 "summary" ["project"] (sp_summary A)) (C_done : Cal P w K mg base (L2.CX P w) 14 "done" ["project", "word", "numbers", "rows"] (sp_done A))
    {f : Addr} {fd : FuncData} (F : Fun K "answer_of" "answer_of" s_answer_of f fd) : FnOk P w K mg base CX0 15 f fd ["project", "word", "numbers", "rows"] (sp_answer_of A) := by
  refine F.ok sc_answer_of (fun vs H Q E h => by obtain ⟨pa, na, ra, b, s, call, rfl, _⟩ := h; rfl) (fun cdv A' outer s H vs Q E hr h => ?_)
  refine ⟨_, pss_one (ps_try_as (i := 4) (tb := t_body K A) (ts := t_except A) (Wout := fun _ _ _ _ => False) rfl rfl sc_answer_of.nd rfl rfl ⟨rfl, by decide, Or.inl T.gR⟩ takes0
    (fun W pn xe tk _ => (pss_cons (ps_if (pt_cmpR op_eq (pv 1) pe_int (nomark _)) (pss_cons (ps_expr (by exact (pe_calS C_need (hr.mono (by decide)) (fun σ => passAt tk σ) (by exact (pa_cons (pe_chain op_le op_le pe_int (pe_ix ix_list (pv 2) pe_int (fun _ _ => rfl)) pe_int) (pa_cons (pe_un un_neg pe_int) pa_nil)))))) (pss_one (ps_ret (by exact (pe_tup (pa_cons (pe_mkc M_Project (hr.mono (by decide)) (pa_cons (pe_ix ix_list (pv 2) pe_int (fun _ _ => rfl)) pa_nil)) (pa_cons (pe_lst (pa_cons pe_int (pa_cons (pe_ix ix_list (pv 2) pe_int (fun _ _ => rfl)) pa_nil))) pa_nil))))))) pss_nil)
      (pss_cons (ps_if (pt_cmpR op_eq (pv 1) pe_int (nomark _)) (pss_one (ps_ret (by exact (pe_tup (pa_cons (pv 0) (pa_cons (pe_op op_cat (pe_lst (pa_cons pe_int pa_nil)) (pe_cal C_summary (hr.mono (by decide)) pass0 (pa_cons (pv 0) pa_nil))) pa_nil)))))) pss_nil)
      (pss_one (ps_ret (by exact (pe_tup (pa_cons (pv 0) (pa_cons (pe_op op_cat (pe_lst (pa_cons pe_int pa_nil)) (pe_calS C_done (hr.mono (by decide)) (fun σ => passAt tk σ) (pa_cons (pv 0) (pa_cons (pv 1) (pa_cons (pv 2) (pa_cons (pv 3) pa_nil)))))) pa_nil)))))))))
    (fun a oe cls d pn hz hf => pss_one (ps_ret (by exact (pe_tup (pa_cons (pv 0) (pa_cons (pe_lst (pa_cons (pe_xf T.xR T.nR_code hz hf (pv 4)) pa_nil)) pa_nil))))))), ?_⟩
  obtain ⟨pa, na, ra, b, s, call, rfl, hna, pj, rs, ro, hl, hb, pn, k⟩ := h
  have dec : ∀ (a b : Nat), a ≠ b → decide (V.int (a : Int) = V.int (b : Int)) = false := fun a b h => by rw [dec_int]; simpa using fun z => h (by omega)
  by_cases hd : doneCall call = true
  · obtain ⟨n1, n2⟩ := enc_ne hd
    refine ⟨_, rfl, rfl, _, rfl, ?_⟩
    rw [show decide (V.int ((enc call).1 : Int) = V.int 0) = false from dec _ 0 n1]
    refine iteF ⟨_, rfl, rfl, _, rfl, ?_⟩
    rw [show decide (V.int ((enc call).1 : Int) = V.int 21) = false from dec _ 21 n2]
    refine iteF ⟨_, rfl, by show 1 ≤ sizeLine; decide, fun q1 hq1 => ?_⟩
    have s1 : Same H (upd H q1 (.lst [.int 0])) := Same.new hq1
    have e1 : upd H q1 (.lst [.int 0]) q1 = some (.lst [.int 0]) := upd_same
    generalize upd H q1 (.lst [.int 0]) = H1 at s1 e1
    refine ⟨_, rfl, _, rfl, _, rfl, _, rfl, pa, na, ra, s, call, rfl, s1 _ _ hna, pj.same s1, rs, hd, ro.same s1, fun c hc e => ?_, fun s' l e H' r sl pj' e' => ?_⟩
    · intro H' d s2 ed
      refine ⟨true, T.teR, fun _ a ha => ?_, fun q => by cases q⟩
      refine ⟨_, rfl, _, rfl, rfl, rfl, d, _, _, rfl, ed, look_hit _, by show 1 ≤ sizeLine; decide, fun q hq => ⟨by show 2 ≤ sizeLine; decide, fun r hr => ?_⟩⟩
      have nqr : q ≠ r := fun z => by rw [← z, upd_same] at hr; cases hr
      have s3 := ((s1.trans s2).trans (Same.new (o := .lst [.int c]) hq)).trans (Same.new (o := .tup [.ref pa, .ref q]) hr)
      refine k _ r pa q (SameL.of s3) (frL (SameL.of (s1.trans s2)) hq) upd_same ?_ ?_ ?_
      · rw [e]; exact pj.same s3
      · rw [e]; exact fun z => (pn z).same s3
      · rw [e, upd_ne nqr, upd_same]; rfl
    · rw [e] at hl k
      refine ⟨q1, r, _, _, rfl, rfl, (sl _ _).1 e1, e', ?_, fun r2 hr2 => ⟨by show 2 ≤ sizeLine; decide, fun r3 hr3 => ?_⟩⟩
      · rw [rV_len]
        have hl' : l.length + 1 ≤ 10000000 := by simpa using hl
        show 1 + l.length ≤ sizeLine
        exact Nat.le_of_lt (big_lt (by omega))
      · have nr : r2 ≠ r3 := fun z => by rw [← z, upd_same] at hr3; cases hr3
        have t2 := (Same.new (o := .lst ([V.int 0] ++ rV l)) hr2).trans (Same.new (o := .tup [.ref pa, .ref r2]) hr3)
        refine k _ r3 pa r2 (((SameL.of s1).trans sl).trans (SameL.of t2)) (frL ((SameL.of s1).trans sl) hr2) upd_same (pj'.same t2) (fun z => by rw [step_zero z hd] at e; cases e) ?_
        rw [upd_ne nr, upd_same]
        rfl
  · cases call <;> first | (exact absurd rfl hd) | skip
    case begin_ t =>
      refine ⟨_, rfl, rfl, _, rfl, iteT ?_⟩
      have st : Vbjbaj.step s (.begin_ t) = if Vbjbaj.inRange t 1 (Vbjbaj.maxTokens : Int) = false then (s, [-1]) else ({ Vbjbaj.initialState with tokens := t.toNat }, [0, t]) := rfl
      have inr : Vbjbaj.inRange t 1 (Vbjbaj.maxTokens : Int) = true ↔ 1 ≤ t ∧ t ≤ 20 := by
        unfold Vbjbaj.inRange
        rw [Bool.and_eq_true, decide_eq_true_eq, decide_eq_true_eq]
        rfl
      have bad : ¬ (1 ≤ t ∧ t ≤ 20) → Vbjbaj.step s (.begin_ t) = (s, [-1]) := fun h => by
        rw [st, if_pos (by rw [← Bool.not_eq_true, inr]; exact h)]
      refine ⟨_, rfl, na, _, 0, .int t, rfl, rfl, SqL.of hna, rfl, _, _, rfl, rfl, _, rfl, ?_⟩
      refine ite2 (fun c1 => ?_) (fun c1 => ⟨_, rfl, false, -1, rfl, (fun z => by cases z), fun _ => ?_⟩)
      case refine_2 =>
        have e := bad fun h => c1 (decide_eq_true h.1)
        intro H' d s2 ed
        refine ⟨true, T.teR, fun _ a ha => ?_, fun q => by cases q⟩
        refine ⟨_, rfl, _, rfl, rfl, rfl, d, _, _, rfl, ed, look_hit _, by show 1 ≤ sizeLine; decide, fun q hq => ⟨by show 2 ≤ sizeLine; decide, fun r hr => ?_⟩⟩
        have nqr : q ≠ r := fun z => by rw [← z, upd_same] at hr; cases hr
        have s3 := (s2.trans (Same.new (o := .lst [.int (-1)]) hq)).trans (Same.new (o := .tup [.ref pa, .ref q]) hr)
        refine k _ r pa q (SameL.of s3) (frL (SameL.of s2) hq) upd_same ?_ ?_ ?_
        · rw [e]; exact pj.same s3
        · rw [e]; exact fun z => (pn z).same s3
        · rw [e, upd_ne nqr, upd_same]; rfl
      have h1 : 1 ≤ t := of_decide_eq_true c1
      refine ⟨_, _, rfl, rfl, _, rfl, _, _, rfl, ?_, ?_⟩
      case refine_2 =>
        intro hn
        have e := bad fun h => of_decide_eq_false hn h.2
        intro H' d s2 ed
        refine ⟨true, T.teR, fun _ a ha => ?_, fun q => by cases q⟩
        refine ⟨_, rfl, _, rfl, rfl, rfl, d, _, _, rfl, ed, look_hit _, by show 1 ≤ sizeLine; decide, fun q hq => ⟨by show 2 ≤ sizeLine; decide, fun r hr => ?_⟩⟩
        have nqr : q ≠ r := fun z => by rw [← z, upd_same] at hr; cases hr
        have s3 := (s2.trans (Same.new (o := .lst [.int (-1)]) hq)).trans (Same.new (o := .tup [.ref pa, .ref q]) hr)
        refine k _ r pa q (SameL.of s3) (frL (SameL.of s2) hq) upd_same ?_ ?_ ?_
        · rw [e]; exact pj.same s3
        · rw [e]; exact fun z => (pn z).same s3
        · rw [e, upd_ne nqr, upd_same]; rfl
      intro y1
      have h2 : t ≤ 20 := of_decide_eq_true y1
      have e : Vbjbaj.step s (.begin_ t) = ({ Vbjbaj.initialState with tokens := t.toNat }, [0, t]) := by
        rw [st, if_neg (by rw [inr.mpr ⟨h1, h2⟩]; decide)]
      rw [e] at k
      obtain ⟨n, rfl⟩ := Int.eq_ofNat_of_zero_le (show 0 ≤ t by omega)
      rw [Int.toNat_natCast] at k
      refine ⟨_, rfl, na, _, 0, .int (n : Int), rfl, rfl, SqL.of hna, rfl, ?_⟩
      intro y dy hy hdy ne
      refine ⟨y, dy, n, rfl, by omega, upd_same, fun H1 df kd bl kp ok1 hbl pi1 => ⟨rfl, ?_⟩⟩
      have pj1 : PjAt A H1 y { Vbjbaj.initialState with tokens := n } := ⟨ok1, dy, df, kd, bl, pi1⟩
      have s7 : Same H H1 := made_same hy hdy kp
      refine ⟨_, rfl, na, _, 0, .int (n : Int), rfl, rfl, SqL.of (s7 _ _ hna), rfl, by show 2 ≤ sizeLine; decide, fun q hq => ⟨by show 2 ≤ sizeLine; decide, fun r hr => ?_⟩⟩
      have nqr : q ≠ r := fun z => by rw [← z, upd_same] at hr; cases hr
      have t2 := (Same.new (o := .lst [.int 0, .int (n : Int)]) hq).trans (Same.new (o := .tup [.ref y, .ref q]) hr)
      refine k _ r y q (SameL.of (s7.trans t2)) (frL (SameL.of s7) hq) upd_same (pj1.same t2) (fun _ => PjN.same t2 ⟨dy, df, kd, bl, pi1, fun z => by
        obtain ⟨xs, hb⟩ := hb
        rw [z, upd_ne (ne_of_none hb hy), upd_ne (ne_of_none hb hdy), hb] at hbl
        cases hbl⟩) ?_
      rw [upd_ne nqr, upd_same]
      rfl
    case summary =>
      refine ⟨_, rfl, rfl, _, rfl, iteF ⟨_, rfl, rfl, _, rfl, iteT ?_⟩⟩
      refine ⟨_, rfl, by show 1 ≤ sizeLine; decide, fun q1 hq1 => ?_⟩
      have s1 : Same H (upd H q1 (.lst [.int 0])) := Same.new hq1
      have e1 : upd H q1 (.lst [.int 0]) q1 = some (.lst [.int 0]) := upd_same
      generalize upd H q1 (.lst [.int 0]) = H1 at s1 e1
      have e : Vbjbaj.step s .summary = (s, 0 :: summaryOut s) := by
        show (s, if s.tokens = 0 then _ else _) = _
        unfold summaryOut
        split <;> rfl
      rw [e] at k hl
      refine ⟨_, rfl, pa, s, rfl, pj.same s1, fun H' r s2 e' => ?_⟩
      refine ⟨q1, r, _, _, rfl, rfl, s2 _ _ e1, e', ?_, fun r2 hr2 => ⟨by show 2 ≤ sizeLine; decide, fun r3 hr3 => ?_⟩⟩
      · rw [rV_len]
        have hl' : (summaryOut s).length + 1 ≤ 10000000 := by simpa using hl
        show 1 + (summaryOut s).length ≤ sizeLine
        exact Nat.le_of_lt (big_lt (by omega))
      · have nr : r2 ≠ r3 := fun z => by rw [← z, upd_same] at hr3; cases hr3
        have t2 := (Same.new (o := .lst ([V.int 0] ++ rV (summaryOut s))) hr2).trans (Same.new (o := .tup [.ref pa, .ref r2]) hr3)
        refine k _ r3 pa r2 (SameL.of ((s1.trans s2).trans t2)) (frL (SameL.of (s1.trans s2)) hr2) upd_same (pj.same ((s1.trans s2).trans t2)) (fun z => (pn z).same ((s1.trans s2).trans t2)) ?_
        rw [upd_ne nr, upd_same]
        rfl
end
end Sf
/-! W31a: ROWS.get(word, 0). -/
namespace Sf
open PySem PySem.Spec PyProof.Rows L2
/-- the written dict ROWS, without slots -/
def RowsE (K : PySem.W.Frag) (d : Addr) : Prop := ∃ (n : Nat) (t1 t2 t3 u1 u2 u3 : Tok), K.lookup d = some ⟨.type "dict", none, .dict #[⟨1, .int 1 t1, .int 3 u1⟩, ⟨13, .int 13 t2, .int 3 u2⟩, ⟨19, .int 19 t3, .int 1 u3⟩] n, #[]⟩
def rowsGet (n : Int) : Int := if n = 1 then 3 else if n = 13 then 3 else if n = 19 then 1 else 0
def tRowsGet (A : Ad) (ty : TE) : TE := fun σ H Q => ty σ H fun y H2 => ∃ n : Int, y = .int n ∧ Q (.int (rowsGet n)) H2
theorem rows_dict {K : PySem.W.Frag} {P : Program} {w : World} {h : Heap} {d : Addr} (X : K.In h) (r : RowsE K d) : ∃ vs : List (L2.Key × Value), h.DictOf (mixKind P w) d vs ∧ KV [((Sum.inl 1 : L2.Key), V.int 3), (Sum.inl 13, V.int 3), (Sum.inl 19, V.int 1)] vs := by
  obtain ⟨n, t1, t2, t3, u1, u2, u3, hl⟩ := r
  have ho := X _ _ hl
  refine ⟨[(.inl 1, .int 3 u1), (.inl 13, .int 3 u2), (.inl 19, .int 1 u3)], ⟨_, _, n, ho, ⟨rfl, rfl, rfl⟩, rfl, ?_, ?_, ?_⟩, .cons ⟨rfl, _, rfl⟩ (.cons ⟨rfl, _, rfl⟩ (.cons ⟨rfl, _, rfl⟩ .nil))⟩
  · intro e he
    have he' : e ∈ [(⟨1, .int 1 t1, .int 3 u1⟩ : DictEntry), ⟨13, .int 13 t2, .int 3 u2⟩, ⟨19, .int 19 t3, .int 1 u3⟩] := by simpa using he
    simp only [List.mem_cons, List.not_mem_nil, or_false] at he'
    rcases he' with rfl | rfl | rfl
    · exact ⟨.inl 1, keyIs_int 1 t1, rfl⟩
    · exact ⟨.inl 13, keyIs_int 13 t2, rfl⟩
    · exact ⟨.inl 19, keyIs_int 19 t3, rfl⟩
  · exact .cons (keyIs_int 1 t1) rfl (.cons (keyIs_int 13 t2) rfl (.cons (keyIs_int 19 t3) rfl .nil))
  · show [(Sum.inl 1 : L2.Key), .inl 13, .inl 19].Nodup
    decide
theorem pe_rows_get {X : Cx} {A : Ad} {e f : Expr} {ty : TE} {p apos cpos : Pos} (R : RowsE X.K A.rows) (hg : Glb X.mg "ROWS" (.ref A.rows)) (hs : (A.rows == sysModules) = false) (he : PE X e ty) (hf : PE X f (tC (.int 0))) (gl : Gl X "ROWS") (m : M2 X (.Name "ROWS" p) "get" apos e f cpos) :
    PE X (.Call (.Attribute (.Name "ROWS" p) "get" apos) [e, f] [] cpos) (tRowsGet A ty) := by
  refine ⟨fun pins s σ H Q I h => ?_⟩
  have ho : PE X (.Name "ROWS" p) (tC (.ref A.rows)) := pe_gl hg gl
  refine wpAny_Call_method m.base m.few m.line PySem.F.plainAttrs_dict PySem.F.slot_dict_get PySem.F.type_dict_get (thn (ho.run pins s σ H (fun x H1 => x = .ref A.rows ∧ H1 = H) I ⟨rfl, rfl⟩) fun u s1 ⟨x, H1, I1, rx, ex, eh⟩ => ?_)
  subst ex
  subst eh
  obtain rfl : u = Value.ref A.rows := rx
  obtain ⟨vs, dd, rel⟩ := rows_dict (P := X.prog) (w := X.w) I1.kIn R
  refine ⟨dd.typeIs, fun b q => ?_, ?_⟩
  · cases q
    obtain ⟨ob, _, _, h1, h2, _⟩ := dd
    exact ⟨ob, h1, h2.2.1⟩
  · rw [m.trees]
    refine Calls.callWith_builtin rfl (Calls.evalArgs_plain (Calls.spliced_cons (thn (he.run pins s1 σ H1 _ I1 h) fun iv s2 ⟨y, H2, I2, ry, n, ey, q2⟩ =>
      Calls.spliced_cons (thn (hf.run pins s2 σ H2 (fun z H3 => z = .int 0 ∧ H3 = H2) I2 ⟨rfl, rfl⟩) fun fv s3 ⟨z, H3, I3, rz, ez, eh⟩ => Calls.spliced_nil ?_))))
    subst ez
    subst eh
    subst ey
    obtain ⟨t, rfl⟩ := (show ∃ t, iv = Value.int n t from ry)
    obtain ⟨vs3, dd3, rel3⟩ := rows_dict (P := X.prog) (w := X.w) I3.kIn R
    refine call_meetsIn PySem.F.slot_dict_get dd3.typeIs PySem.F.entry_dict_get (PySem.F.args_dict_get_3 _ _ _) (meets_dict_get_default (mixKind X.prog X.w) A.rows (k := (.inl n : L2.Key)) (key := .int n t) (show (mixKind X.prog X.w).is (.inl n) (.int n t) = true from keyIs_int n t) hs fv) ⟨_, dd3.mapOf, ?_⟩
    refine ⟨.int (rowsGet n), H3, I3.tok _, ?_, q2⟩
    have := L2.RelO.getD (rel3.val (.inl n)) rz
    have e : (valV [((Sum.inl 1 : L2.Key), V.int 3), (Sum.inl 13, V.int 3), (Sum.inl 19, V.int 1)] (.inl n)).getD (.int 0) = .int (rowsGet n) := by
      unfold rowsGet
      by_cases c1 : n = 1
      · subst c1; rfl
      · rw [valV_neg (fun z => c1 (Sum.inl.inj z).symm), if_neg c1]
        by_cases c2 : n = 13
        · subst c2; rfl
        · rw [valV_neg (fun z => c2 (Sum.inl.inj z).symm), if_neg c2]
          by_cases c3 : n = 19
          · subst c3; rfl
          · rw [valV_neg (fun z => c3 (Sum.inl.inj z).symm), if_neg c3]
            rfl
    rw [e] at this
    exact this
end Sf
/-! M11: the calls as one list of numbers. -/
namespace Sf
theorem whole_id (c : List (List Int)) : PyVbjbaj.whole c = c := by
  unfold PyVbjbaj.whole
  split <;> rfl
def flatR : List (List Int) → List Int
  | [] => []
  | x :: xs => ((x.length : Nat) : Int) :: x ++ flatR xs
def encC : List (List Int) → List Int
  | [] => []
  | a :: xs => a ++ flatR xs
theorem rows_enc : ∀ (k : Nat) (u t : List Int) (xs : List (List Int)), PyFlat.rows k u = some (xs, t) → u = flatR xs ++ t ∧ xs.length = k
  | 0, u, t, xs, h => by
    unfold PyFlat.rows at h
    cases h
    exact ⟨rfl, rfl⟩
  | k + 1, u, t, xs, h => by
    unfold PyFlat.rows at h
    cases e : PyFlat.row u with
    | none => rw [e] at h; cases h
    | some q =>
      obtain ⟨x, s⟩ := q
      rw [e] at h
      simp only at h
      cases e2 : PyFlat.rows k s with
      | none => rw [e2] at h; cases h
      | some q2 =>
        obtain ⟨ys, t'⟩ := q2
        rw [e2] at h
        cases h
        obtain ⟨h1, h2⟩ := rows_enc k s t ys e2
        cases u with
        | nil => unfold PyFlat.row at e; cases e
        | cons n r =>
          unfold PyFlat.row at e
          simp only at e
          split at e
          · rename_i c
            cases e
            refine ⟨?_, by rw [List.length_cons, h2]⟩
            have hl : ((r.take n.toNat).length : Int) = n := by rw [List.length_take]; omega
            show n :: r = (((r.take n.toNat).length : Nat) : Int) :: (r.take n.toNat) ++ flatR ys ++ t
            rw [hl]
            show n :: r = n :: (r.take n.toNat ++ flatR ys ++ t)
            rw [List.append_assoc, ← h1, List.take_append_drop]
          · cases e
theorem call_enc {shape : Int → Option (Nat × Nat)} {l t : List Int} {c : List (List Int)} (h : PyFlat.call shape l = some (c, t)) : l = encC c ++ t := by
  cases l with
  | nil => unfold PyFlat.call at h; cases h
  | cons p r =>
    unfold PyFlat.call at h
    simp only at h
    cases e : shape p with
    | none => rw [e] at h; cases h
    | some q =>
      obtain ⟨n, k⟩ := q
      rw [e] at h
      simp only at h
      split at h
      · cases h
      · cases e2 : PyFlat.rows k (r.drop n) with
        | none => rw [e2] at h; cases h
        | some q2 =>
          obtain ⟨xs, t'⟩ := q2
          rw [e2] at h
          cases h
          obtain ⟨h1, _⟩ := rows_enc _ _ _ _ e2
          show p :: r = (p :: r.take n) ++ flatR xs ++ t
          rw [List.append_assoc, ← h1, List.cons_append, List.take_append_drop]
theorem calls_enc {shape : Int → Option (Nat × Nat)} : ∀ (f : Nat) (l : List Int) (cs : List (List (List Int))), PyFlat.calls shape f l = some cs → l = cs.flatMap encC
  | f, [], cs, h => by
    cases f <;> (unfold PyFlat.calls at h; cases h; rfl)
  | 0, p :: r, cs, h => by unfold PyFlat.calls at h; cases h
  | f + 1, p :: r, cs, h => by
    unfold PyFlat.calls at h
    cases e : PyFlat.call shape (p :: r) with
    | none => rw [e] at h; cases h
    | some q =>
      obtain ⟨c, t⟩ := q
      rw [e] at h
      simp only at h
      cases e2 : PyFlat.calls shape f t with
      | none => rw [e2] at h; cases h
      | some cs' =>
        rw [e2] at h
        cases h
        rw [List.flatMap_cons, ← calls_enc f t cs' e2]
        exact call_enc e
def encL (c : Vbjbaj.Call) : List (List Int) := ((((enc c).1 : Nat) : Int) :: (enc c).2.1) :: (enc c).2.2
theorem callOf_enc {c : List (List Int)} {call : Vbjbaj.Call} (h : VbjbajNeutral.callOf c = some call) : c = encL call := by
  unfold VbjbajNeutral.callOf at h
  split at h <;> first | (cases h; done) | (cases h; rfl)
def playedC : Vbjbaj.State → List Vbjbaj.Call → List (List Int)
  | _, [] => []
  | s, c :: r => (Vbjbaj.step s c).2 :: playedC (Vbjbaj.step s c).1 r
theorem played_eq : ∀ (raw : List (List (List Int))), (∀ c ∈ raw, (VbjbajNeutral.callOf c).isSome = true) → ∃ cs : List Vbjbaj.Call, raw = cs.map encL ∧ ∀ s, PyFlat.played VbjbajNeutral.step s raw = playedC s cs
  | [], _ => ⟨[], rfl, fun _ => rfl⟩
  | c :: raw, h => by
    obtain ⟨cs, h1, h2⟩ := played_eq raw fun c hc => h c (List.mem_cons_of_mem _ hc)
    obtain ⟨call, hc⟩ := Option.isSome_iff_exists.mp (h c List.mem_cons_self)
    refine ⟨call :: cs, by rw [List.map_cons, ← h1, ← callOf_enc hc], fun s => ?_⟩
    have e : VbjbajNeutral.step s c = Vbjbaj.step s call := by
      unfold VbjbajNeutral.step
      rw [hc]
    show (VbjbajNeutral.step s c).2 :: PyFlat.played VbjbajNeutral.step (VbjbajNeutral.step s c).1 raw = _
    rw [e, h2]
    rfl
theorem mem_sum : ∀ {l : List Nat} {x : Nat}, x ∈ l → x ≤ l.sum
  | a :: l, x, h => by
    rw [List.sum_cons]
    rcases List.mem_cons.mp h with h | h
    · omega
    · have := mem_sum h
      omega
theorem mem_flat {x : List Int} : ∀ {xs : List (List Int)}, x ∈ xs → x.length ≤ xs.flatten.length
  | y :: xs, h => by
    rw [List.flatten_cons, List.length_append]
    rcases List.mem_cons.mp h with h | h
    · subst h; omega
    · have := mem_flat h
      omega
/-- what is asked: the calls, each one of the document's -/
theorem asked_calls {l : List Int} (h : PyVbjbaj.answers_asked l = true) : ∃ cs : List Vbjbaj.Call, l = cs.flatMap (fun c => encC (encL c)) ∧ PyVbjbaj.answers l = PyFlat.told (playedC Vbjbaj.initialState cs) ∧ (∀ c ∈ cs, ∀ r ∈ (enc c).2.2, r.length ≤ 3000) ∧ (PyFlat.told (playedC Vbjbaj.initialState cs)).length ≤ 10000000 := by
  unfold PyVbjbaj.answers_asked at h
  cases e : PyFlat.calls PyVbjbaj.shape l.length l with
  | none => rw [e] at h; cases h
  | some raw =>
    rw [e] at h
    simp only [Bool.and_eq_true] at h
    obtain ⟨⟨⟨⟨_, _⟩, _⟩, h4⟩, h5⟩ := h
    have idm : raw.map PyVbjbaj.whole = raw := by
      have : PyVbjbaj.whole = id := funext whole_id
      rw [this, List.map_id]
    rw [idm] at h4
    unfold VbjbajNeutral.asked at h4
    simp only [Bool.and_eq_true, List.all_eq_true, decide_eq_true_eq] at h4
    obtain ⟨a1, _, _, a4, _⟩ := h4
    obtain ⟨cs, c1, c2⟩ := played_eq raw fun c hc => by
      have := a1 c hc
      unfold VbjbajNeutral.asked1 at this
      rw [Bool.and_eq_true] at this
      exact this.1
    have ea : PyVbjbaj.answers l = PyFlat.told (playedC Vbjbaj.initialState cs) := by
      unfold PyVbjbaj.answers PyVbjbaj.calls
      rw [e]
      show PyFlat.told (PyFlat.played VbjbajNeutral.step VbjbajNeutral.start (raw.map PyVbjbaj.whole)) = _
      rw [idm, c2]
      rfl
    refine ⟨cs, ?_, ea, fun c hc r hr => ?_, ?_⟩
    · have := calls_enc _ _ _ e
      rw [this, c1, List.flatMap_map]
    · have hm : encL c ∈ raw := by rw [c1]; exact List.mem_map.mpr ⟨c, hc, rfl⟩
      have h1 := mem_flat (x := r) (xs := (encL c).drop 1) hr
      have h2 := mem_sum (List.mem_map.mpr ⟨encL c, hm, rfl⟩ : ((encL c).drop 1).flatten.length ∈ raw.map fun c => (c.drop 1).flatten.length)
      have a4' : (raw.map fun c => (c.drop 1).flatten.length).sum ≤ 3000 := by simpa using a4
      exact Nat.le_trans h1 (Nat.le_trans h2 a4')
    · rw [← ea]
      unfold PyFlat.short at h5
      exact of_decide_eq_true h5
end Sf
/-! W31: answers. -/
namespace Sf
open PySem PySem.Spec PyProof.Rows L2
open Vbjbaj (Statement File Project State Readings)
theorem cut_mid (X Y Z : List V) {a b : Int} (ha : a = (X.length : Int)) (hb : b = ((X.length + Y.length : Nat) : Int)) : cutV (X ++ Y ++ Z) (some a) (some b) = Y := by
  subst ha hb
  unfold cutV
  rw [HT.sIx_nat, HT.sIx_nat]
  have l : (X ++ Y ++ Z).length = X.length + Y.length + Z.length := by simp [Nat.add_assoc]
  rw [Nat.min_eq_left (by omega), Nat.min_eq_left (by omega), List.append_assoc, List.drop_left, show X.length + Y.length - X.length = Y.length by omega, List.take_left]
theorem at_mid (X : List V) (y : V) (Z : List V) {a : Int} (ha : a = (X.length : Int)) : atI (X ++ y :: Z) a = some y := by
  subst ha
  refine atI_nat ?_
  rw [List.getElem?_append_right (Nat.le_refl _), Nat.sub_self]
  rfl
theorem num_at (c : Vbjbaj.Call) : (numsL.map V.int)[(enc c).1]? = some (.int (((enc c).2.1.length : Nat) : Int)) := by cases c <;> rfl
theorem rows_num (c : Vbjbaj.Call) : rowsGet ((enc c).1 : Int) = ((enc c).2.2.length : Int) := by cases c <;> rfl
def stateC : State → List Vbjbaj.Call → State
  | s, [] => s
  | s, c :: r => stateC (Vbjbaj.step s c).1 r
theorem stateC_snoc : ∀ (s : State) (l : List Vbjbaj.Call) (c : Vbjbaj.Call), stateC s (l ++ [c]) = (Vbjbaj.step (stateC s l) c).1
  | s, [], c => rfl
  | s, a :: l, c => stateC_snoc (Vbjbaj.step s a).1 l c
theorem playedC_snoc : ∀ (s : State) (l : List Vbjbaj.Call) (c : Vbjbaj.Call), playedC s (l ++ [c]) = playedC s l ++ [(Vbjbaj.step (stateC s l) c).2]
  | s, [], c => rfl
  | s, a :: l, c => by
    show (Vbjbaj.step s a).2 :: playedC (Vbjbaj.step s a).1 (l ++ [c]) = _
    rw [playedC_snoc (Vbjbaj.step s a).1 l c]
    rfl
theorem told_app (l m : List (List Int)) : PyFlat.told (l ++ m) = PyFlat.told l ++ PyFlat.told m := by
  unfold PyFlat.told
  rw [List.flatMap_append]
theorem told_one (x : List Int) : PyFlat.told [x] = (x.length : Int) :: x := by simp [PyFlat.told]
theorem playedC_app : ∀ (s : State) (l m : List Vbjbaj.Call), playedC s (l ++ m) = playedC s l ++ playedC (stateC s l) m
  | s, [], m => rfl
  | s, a :: l, m => by
    show (Vbjbaj.step s a).2 :: playedC (Vbjbaj.step s a).1 (l ++ m) = _
    rw [playedC_app (Vbjbaj.step s a).1 l m]
    rfl
/-- the readings stay small -/
theorem rs_step {s : State} (ok : StOk s) (rs : RsOk s) (c : Vbjbaj.Call) : RsOk (Vbjbaj.step s c).1 := by
  have note : ∀ l, RsOk { s with readings := Vbjbaj.noteAll s.project s.readings l } := fun l f k hk => by
    have hk : (Vbjbaj.noteAll s.project s.readings l).getD f none = some k := hk
    by_cases hf : f < s.readings.length
    · rw [noteAll_at _ _ _ hf] at hk
      split at hk
      · obtain ⟨x, hx, rfl⟩ := keyOf_file hk
        exact relevant_len ok.pw
      · exact rs f k hk
    · rw [List.getD_eq_getElem?_getD, List.getElem?_eq_none (by rw [noteAll_len]; omega)] at hk
      cases hk
  have wf : ∀ (z : Int) (F : Nat → File → List Int), RsOk (Vbjbaj.withFile s z F).1 := fun z F => rs
  cases c
  case begin_ t =>
    show RsOk (if Vbjbaj.inRange t 1 (Vbjbaj.maxTokens : Int) = false then (s, [-1]) else ({ Vbjbaj.initialState with tokens := t.toNat }, [0, t])).1
    split
    · exact rs
    · intro f k hk
      have hk : (List.replicate Vbjbaj.maxFiles none).getD f none = some k := hk
      rw [List.getD_eq_getElem?_getD, List.getElem?_replicate] at hk
      split at hk <;> cases hk
  case read n =>
    show RsOk (if s.tokens = 0 then (s, [-2]) else if Vbjbaj.isNumber n = false then (s, [-1]) else if Vbjbaj.doesExist s.project n.toNat = false then (s, [-3]) else ({ s with readings := Vbjbaj.noteAll s.project s.readings [n.toNat] }, [0, if (Vbjbaj.pendingOf s.project s.readings).contains n.toNat = true then 1 else 0])).1
    split
    · exact rs
    · split
      · exact rs
      · split
        · exact rs
        · exact note _
  case readAll =>
    show RsOk (if s.tokens = 0 then (s, [-2]) else ({ s with readings := Vbjbaj.noteAll s.project s.readings (Vbjbaj.pendingOf s.project s.readings) }, [0, ((Vbjbaj.pendingOf s.project s.readings).length : Int)])).1
    split
    · exact rs
    · exact note _
  case file n a b c =>
    show RsOk (if s.tokens = 0 then (s, [-2]) else if Vbjbaj.isNumber n = false then (s, [-1]) else match Vbjbaj.fileFrom s.tokens a b c with
    | none => (s, [-1])
    | some x => Vbjbaj.changed s (Vbjbaj.put s.project n.toNat (some x))).1
    split
    · exact rs
    · split
      · exact rs
      · split <;> exact rs
  case remove n =>
    show RsOk (if s.tokens = 0 then (s, [-2]) else if Vbjbaj.isNumber n = false then (s, [-1]) else if Vbjbaj.doesExist s.project n.toNat = false then (s, [-3]) else Vbjbaj.changed s (Vbjbaj.put s.project n.toNat none)).1
    split
    · exact rs
    · split
      · exact rs
      · split <;> exact rs
  case undo =>
    show RsOk (if s.tokens = 0 then (s, [-2]) else match s.past with
    | [] => (s, [-5])
    | p :: rest => ({ s with project := p, past := rest }, 0 :: Vbjbaj.counted (Vbjbaj.pendingOf p s.readings))).1
    split
    · exact rs
    · split <;> exact rs
  all_goals exact rs
theorem FileAt.nl {C : Addr} {H H' : Hp} {a : Addr} {x : File} (e : SameNL H H') (h : FileAt C H a x) : FileAt C H' a x := by
  obtain ⟨dx, it, st, tt, ss, h1, h2, h3, h4, h5⟩ := h
  exact ⟨dx, it, st, tt, ss, e _ _ (fun _ z => by cases z) h1, e _ _ (fun _ z => by cases z) h2, e _ _ (fun _ z => by cases z) h3, h4.nl e, e _ _ (fun _ z => by cases z) h5⟩
theorem FilesU.nl {C : Addr} {H H' : Hp} {d : Addr} {p : Project} (e : SameNL H H') (h : FilesU C H d p) : FilesU C H' d p := by
  obtain ⟨kvs, h1, h2⟩ := h
  exact ⟨kvs, e _ _ (fun _ z => by cases z) h1, h2.nd, h2.ks, fun f x q => by obtain ⟨a, h3, h4⟩ := h2.at_ f x q; exact ⟨a, h3, h4.nl e⟩⟩
theorem Kept.nl {H H' : Hp} {kd : Addr} {r : Readings} (e : SameNL H H') (h : Kept H kd r) : Kept H' kd r := by
  obtain ⟨kvs, ks, h1, h2, h3, h4, h5⟩ := h
  exact ⟨kvs, ks, e _ _ (fun _ z => by cases z) h1, h2, h3, h4, fun f hf => (h5 f hf).imp_right fun ⟨v, k, q1, q2, q3⟩ => ⟨v, k, q1, q2, q3.nl e⟩⟩
theorem PjN.put {A : Ad} {H : Hp} {pa b : Addr} {s : State} {xs ys : List V} (h : PjN A H pa s b) (hb : H b = some (.lst xs)) : PjN A (upd H b (.lst ys)) pa s b := by
  obtain ⟨dx, df, kd, bl, pi, ne⟩ := h
  have nl : SameNL H (upd H b (.lst ys)) := SameNL.of hb ((SameX.refl b H).put)
  refine ⟨dx, df, kd, bl, ⟨nl _ _ (fun _ z => by cases z) pi.ob, pi.fu.nl nl, pi.ke.nl nl, ?_, pi.ne⟩, ne⟩
  obtain ⟨vs, h1, h2⟩ := pi.be
  exact ⟨vs, by rw [upd_ne ne]; exact h1, Paired.mapP h2 fun _ _ ⟨d, q1, q2, q3⟩ => ⟨d, q1, q2, q3.nl nl⟩⟩
theorem pjN_of {A : Ad} {H : Hp} {pa b : Addr} {s : State} {l : List Int} (h : PjAt A H pa s) (hb : H b = some (.lst (rV l))) (hl : l ≠ []) : PjN A H pa s b := by
  obtain ⟨_, dx, df, kd, bl, pi⟩ := h
  refine ⟨dx, df, kd, bl, pi, fun z => ?_⟩
  obtain ⟨vs, h1, h2⟩ := pi.be
  rw [z, hb] at h1
  cases h1
  cases l with
  | nil => exact hl rfl
  | cons a l =>
    generalize s.past.reverse = m at h2
    cases h2 with
    | cons h t =>
      obtain ⟨d, e, _⟩ := h
      cases e
section
variable {P : Program} {w : World} {K : PySem.W.Frag} {mg : Str → Option Value} {base : Heap} {A : Ad}
def sp_answers (K : PySem.W.Frag) : Sp := fun vs H Q _ => ∃ (a : Addr) (l : List Int), vs = [.ref a] ∧ SqL K H a (rV l) ∧ PyVbjbaj.answers_asked l = true ∧ ∀ H' p, H' p = some (.lst (rV (PyVbjbaj.answers l))) → Q (.ref p) H'
theorem ok_answers (T : Txt K mg A) (R : RowsE K A.rows) (hsr : (A.rows == sysModules) = false) (M_Project : MkC P w K mg base 1 "Project" A.Project ["self", "tokens"] (sp_Project_make A)) (C_answer_of : Cal P w K mg base CX0 15 "answer_of" ["project", "word", "numbers", "rows"] (sp_answer_of A))
    {f : Addr} {fd : FuncData} (F : Fun K "answers" "answers" s_answers f fd) : FnOk P w K mg base CX0 16 f fd ["calls"] (sp_answers K) := by
  refine F.ok sc_answers (fun vs H Q E h => by obtain ⟨a, l, rfl, _⟩ := h; rfl) (fun cdv A' outer s H vs Q E hr h => ?_)
  refine ⟨_, (pss_cons (ps_par3 (i := 1) (j := 2) (l := 3) (by rfl) sc_answers.nd rfl rfl rfl (by decide) (by decide) (by decide) rfl rfl rfl (pa_cons (pe_mkc M_Project (hr.mono (by decide)) (pa_cons pe_int pa_nil)) (pa_cons (pe_lst pa_nil) (pa_cons pe_int pa_nil))) (by rfl))
(pss_cons (ps_while PassesOwn.never (pt_cmpR op_lt (pv 3) (pe_callB call_len_seq (by rfl) T.b_len (by decide +kernel) (pa_cons (pv 0) pa_nil)) (nomark _)) (pss_cons (ps_set (i := 4) sc_answers.nd rfl (Or.inl rfl) (pe_ix ix_list (pv 0) (pv 3) (fun _ _ => rfl)))
(pss_cons (ps_set (i := 5) sc_answers.nd rfl (Or.inl rfl) (pe_slice sl_list (pv 0) (po_some (pe_op op_add (pv 3) pe_int)) (po_some (pe_op op_add (pe_op op_add (pv 3) pe_int) (pe_ix ix_list (pe_gl T.c_NUMBERS) (pv 4) (fun _ _ => rfl))))))
(pss_cons (ps_aug (i := 3) sc_answers.nd rfl (Or.inl rfl) (pe_op op_add pe_int (pe_ix ix_list (pe_gl T.c_NUMBERS) (pv 4) (fun _ _ => rfl))) ip_add)
(pss_cons (ps_set (i := 6) sc_answers.nd rfl (Or.inl rfl) (pe_lst pa_nil))
(pss_cons (ps_for PassesOwn.never rfl (pi_range1 rfl T.b_range (pa_cons (pe_rows_get R T.c_ROWS hsr (pv 4) pe_int rfl ⟨rfl, rfl, rfl, rfl⟩) pa_nil)) (pg_name (i := 7) sc_answers.nd rfl (Or.inl rfl)) (pss_cons (ps_expr (pe_bm PySem.F.plainAttrs_list PySem.F.slot_list_append PySem.F.type_list_append mt_append (pv 6) (pa_cons (pe_slice sl_list (pv 0) (po_some (pe_op op_add (pv 3) pe_int)) (po_some (pe_op op_add (pe_op op_add (pv 3) pe_int) (pe_ix ix_list (pv 0) (pv 3) (fun _ _ => rfl))))) pa_nil)))
(pss_one (ps_aug (i := 3) sc_answers.nd rfl (Or.inl rfl) (pe_op op_add pe_int (pe_ix ix_list (pv 0) (pv 3) (fun _ _ => rfl))) ip_add))))
(pss_cons (ps_asg (pe_cal C_answer_of (hr.mono (by decide)) pass0 (pa_cons (pv 1) (pa_cons (pv 4) (pa_cons (pv 5) (pa_cons (pv 6) pa_nil))))) (pg_tup rfl (pgs_cons (pg_name (i := 1) sc_answers.nd rfl (Or.inl rfl)) (pgs_cons (pg_name (i := 8) sc_answers.nd rfl (Or.inl rfl)) pgs_nil))))
(pss_cons (ps_expr (pe_bm PySem.F.plainAttrs_list PySem.F.slot_list_append PySem.F.type_list_append mt_append (pv 2) (pa_cons (pe_callB call_len_seq (by rfl) T.b_len (by decide +kernel) (pa_cons (pv 8) pa_nil)) pa_nil)))
(pss_one (ps_expr (pe_bm PySem.F.plainAttrs_list PySem.F.slot_list_extend PySem.F.type_list_extend mt_extend (pv 2) (pa_cons (pv 8) pa_nil))))))))))))
(pss_one (ps_ret (pv 2))))), ?_⟩
  obtain ⟨a, l, rfl, ha, hask, k⟩ := h
  obtain ⟨cs, el, ea, hrows, hlen⟩ := asked_calls hask
  rw [ea] at k
  have keep : ∀ {H' : Hp}, SameL H H' → SqL K H' a (rV l) := fun {H'} sl => by
    rcases ha with (e | ⟨o, e⟩) | e
    · exact .inl (.inl ((sl _ _).1 e))
    · exact .inl (.inr ⟨o, (sl a []).2.2 _ _ e⟩)
    · exact .inr e
  intro y dy hy hdy ne
  refine ⟨y, dy, 0, rfl, by decide, upd_same, fun H1 df kd bl kp ok1 hbl pi1 => ⟨rfl, ?_⟩⟩
  have pj1 : PjAt A H1 y { Vbjbaj.initialState with tokens := 0 } := ⟨ok1, dy, df, kd, bl, pi1⟩
  have s1 : Same H H1 := made_same hy hdy kp
  refine ⟨by show 0 ≤ sizeLine; decide, fun fl hfl => ?_⟩
  have s2 : Same H1 (upd H1 fl (.lst [])) := Same.new hfl
  refine ⟨_, _, _, rfl, ?_⟩
  refine ⟨fun m σ H' => ∃ (pre post : List Vbjbaj.Call) (pa : Addr) (x4 x5 x6 x7 x8 : Option V), σ = [some (.ref a), some (.ref pa), some (.ref fl), some (.int (((pre.flatMap fun c => encC (encL c)).length : Nat) : Int)), x4, x5, x6, x7, x8] ∧ cs = pre ++ post ∧ m = post.length ∧ SameL H H' ∧ H' fl = some (.lst (rV (PyFlat.told (playedC Vbjbaj.initialState pre)))) ∧ PjAt A H' pa (stateC Vbjbaj.initialState pre) ∧ RsOk (stateC Vbjbaj.initialState pre) ∧ (pre = [] → PjN A H' pa (stateC Vbjbaj.initialState pre) fl),
    ⟨cs.length, [], cs, y, none, none, none, none, none, rfl, rfl, rfl, SameL.of (s1.trans s2), upd_same, pj1.same s2, ?_, fun _ => PjN.same s2 ⟨dy, df, kd, bl, pi1, fun z => by obtain ⟨vs, h1, _⟩ := pi1.be; rw [z, hfl] at h1; cases h1⟩⟩, ?_⟩
  · intro f k hk
    have hk : (List.replicate Vbjbaj.maxFiles none).getD f none = some k := hk
    rw [List.getD_eq_getElem?_getD, List.getElem?_replicate] at hk
    split at hk <;> cases hk
  rintro m σ H2 ⟨pre, post, pa, x4, x5, x6, x7, x8, rfl, ecs, rfl, sl2, hf2, pj2, rs2, pn2⟩
  have hS := keep sl2
  refine ⟨_, rfl, _, rfl, a, _, rfl, .inl hS, _, _, rfl, rfl, _, rfl, ?_⟩
  cases post with
  | nil =>
    rw [List.append_nil] at ecs
    subst ecs
    have e : decide ((((cs.flatMap fun c => encC (encL c)).length : Nat) : Int) < (((rV l).length : Nat) : Int)) = false := decide_eq_false (by rw [rV_len, el]; omega)
    rw [e]
    exact iteF ⟨_, rfl, k H2 fl hf2⟩
  | cons c post =>
    have eE : encC (encL c) = ((((enc c).1 : Nat) : Int) :: (enc c).2.1) ++ flatR (enc c).2.2 := rfl
    generalize eP : (pre.flatMap fun c => encC (encL c)) = PP at hf2 ⊢
    generalize eR : (post.flatMap fun c => encC (encL c)) = RR
    have eL : l = PP ++ ((((enc c).1 : Nat) : Int) :: ((enc c).2.1 ++ (flatR (enc c).2.2 ++ RR))) := by
      rw [el, ecs, List.flatMap_append, List.flatMap_cons, eP, eR, eE]
      simp
    have num := num_at c
    have rnum := rows_num c
    have hrw := hrows c (by rw [ecs]; simp)
    have eV : rV l = rV PP ++ (V.int (((enc c).1 : Nat) : Int) :: (rV (enc c).2.1 ++ (rV (flatR (enc c).2.2) ++ rV RR))) := by rw [eL]; simp [rV]
    have e : decide (((PP.length : Nat) : Int) < (((rV l).length : Nat) : Int)) = true := decide_eq_true (by rw [eV]; simp; omega)
    rw [e]
    refine iteT ⟨fun σ' H' => ∃ m', m' < (c :: post).length ∧ ∃ (pre post : List Vbjbaj.Call) (pa : Addr) (x4 x5 x6 x7 x8 : Option V), σ' = [some (.ref a), some (.ref pa), some (.ref fl), some (.int (((pre.flatMap fun c => encC (encL c)).length : Nat) : Int)), x4, x5, x6, x7, x8] ∧ cs = pre ++ post ∧ m' = post.length ∧ SameL H H' ∧ H' fl = some (.lst (rV (PyFlat.told (playedC Vbjbaj.initialState pre)))) ∧ PjAt A H' pa (stateC Vbjbaj.initialState pre) ∧ RsOk (stateC Vbjbaj.initialState pre) ∧ (pre = [] → PjN A H' pa (stateC Vbjbaj.initialState pre) fl), fun _ _ z => z, ?_⟩
    have hat : atI (rV l) ((PP.length : Nat) : Int) = some (.int (((enc c).1 : Nat) : Int)) := by rw [eV]; exact at_mid _ _ _ (by rw [rV_len])
    refine ⟨_, rfl, _, rfl, a, _, _, _, rfl, rfl, hS, hat, ?_⟩
    refine ⟨_, rfl, _, rfl, _, _, rfl, rfl, _, rfl, _, rfl, _, _, rfl, rfl, _, rfl, A.nums, _, _, _, rfl, rfl, sqL_any T.nums, atI_nat num, _, _, rfl, rfl, _, rfl, a, _, rfl, hS, fun q hq => ?_⟩
    have ec : cutV (rV l) (some (((PP.length : Nat) : Int) + 1)) (some (((PP.length : Nat) : Int) + 1 + (((enc c).2.1.length : Nat) : Int))) = rV (enc c).2.1 := by
      rw [eV, show rV PP ++ (V.int (((enc c).1 : Nat) : Int) :: (rV (enc c).2.1 ++ (rV (flatR (enc c).2.2) ++ rV RR))) = (rV PP ++ [V.int (((enc c).1 : Nat) : Int)]) ++ rV (enc c).2.1 ++ (rV (flatR (enc c).2.2) ++ rV RR) by simp]
      exact cut_mid _ _ _ (by simp) (by simp)
    rw [ec]
    have s3 : Same H2 (upd H2 q (.lst (rV (enc c).2.1))) := Same.new hq
    have e3 : upd H2 q (.lst (rV (enc c).2.1)) q = some (.lst (rV (enc c).2.1)) := upd_same
    generalize upd H2 q (.lst (rV (enc c).2.1)) = H3 at s3 e3
    have sl3 := sl2.trans (SameL.of s3)
    have hS3 := keep sl3
    refine ⟨_, rfl, _, rfl, A.nums, _, _, _, rfl, rfl, sqL_any T.nums, atI_nat num, _, _, rfl, rfl, _, _, rfl, rfl, ?_⟩
    refine ⟨by show 0 ≤ sizeLine; decide, fun ra hra => ?_⟩
    have s4 : Same H3 (upd H3 ra (.lst [])) := Same.new hra
    have e4 : upd H3 ra (.lst []) ra = some (.lst []) := upd_same
    have nqr : q ≠ ra := fun z => by rw [← z, e3] at hra; cases hra
    have nfr : fl ≠ ra := fun z => by rw [← z, s3 _ _ hf2] at hra; cases hra
    have kr : (enc c).2.2.length ≤ 3 := by cases c <;> simp [enc]
    refine ⟨_, rfl, _, rfl, _, rfl, by rw [rnum]; omega, by rw [rnum]; omega, ?_⟩
    rw [rnum, Int.toNat_natCast]
    have hS4 := keep (sl3.trans (SameL.of s4))
    generalize upd H3 ra (.lst []) = H4 at s4 e4 hS4
    refine for_range (lo := 0) (n := (enc c).2.2.length) (fun j σ H' => ∃ (x7 : Option V) (as : List Addr), σ = [some (.ref a), some (.ref pa), some (.ref fl), some (.int (((PP.length + 1 + (enc c).2.1.length + (flatR ((enc c).2.2.take j)).length : Nat)) : Int)), some (.int (((enc c).1 : Nat) : Int)), some (.ref q), some (.ref ra), x7, x8] ∧ Same H3 H' ∧ H' ra = some (.lst (as.map V.ref)) ∧ Paired (fun a r => H' a = some (.lst (rV r)) ∧ a ≠ ra) as ((enc c).2.2.take j)) ⟨x7, [], ?_, s4, e4, .nil⟩ ?_ ?_
    · show [_, _, _, _, _, _, _, _, _] = _
      congr 4
      simp [flatR]
      omega
    · rintro j σ H5 hj ⟨x7, as, rfl, s5, e5, r5⟩
      obtain ⟨x, hx⟩ : ∃ x, (enc c).2.2[j]? = some x := ⟨(enc c).2.2[j], List.getElem?_eq_getElem hj⟩
      have hS5 := keep (sl3.trans (SameL.of s5))
      have ev := take_succ' hx
      have lx := hrw x (List.mem_of_getElem? hx)
      have fap : ∀ (l m : List (List Int)), flatR (l ++ m) = flatR l ++ flatR m := by
        intro l m
        induction l with
        | nil => rfl
        | cons y l ih => show _ :: y ++ flatR (l ++ m) = _ :: y ++ flatR l ++ flatR m; rw [ih]; simp
      have esp : (enc c).2.2 = (enc c).2.2.take j ++ x :: (enc c).2.2.drop (j + 1) := by
        have h1 := List.drop_eq_getElem_cons hj
        rw [(List.getElem?_eq_some_iff.mp hx).2] at h1
        rw [← h1, List.take_append_drop]
      have eV2 : rV l = (rV PP ++ [V.int (((enc c).1 : Nat) : Int)] ++ rV (enc c).2.1 ++ rV (flatR ((enc c).2.2.take j))) ++ (V.int ((x.length : Nat) : Int) :: (rV x ++ (rV (flatR ((enc c).2.2.drop (j + 1))) ++ rV RR))) := by
        have e1 : flatR (enc c).2.2 = flatR ((enc c).2.2.take j) ++ (((x.length : Nat) : Int) :: x ++ flatR ((enc c).2.2.drop (j + 1))) := by
          conv => lhs; rw [esp]
          rw [fap]
          rfl
        rw [eV, e1]
        simp [rV]
      have la : (rV PP ++ [V.int (((enc c).1 : Nat) : Int)] ++ rV (enc c).2.1 ++ rV (flatR ((enc c).2.2.take j))).length = PP.length + 1 + (enc c).2.1.length + (flatR ((enc c).2.2.take j)).length := by simp; omega
      have at5 : atI (rV l) (((PP.length + 1 + (enc c).2.1.length + (flatR ((enc c).2.2.take j)).length : Nat)) : Int) = some (.int ((x.length : Nat) : Int)) := by
        rw [eV2]
        exact at_mid _ _ _ (by rw [la])
      have ec5 : cutV (rV l) (some ((((PP.length + 1 + (enc c).2.1.length + (flatR ((enc c).2.2.take j)).length : Nat)) : Int) + 1)) (some ((((PP.length + 1 + (enc c).2.1.length + (flatR ((enc c).2.2.take j)).length : Nat)) : Int) + 1 + ((x.length : Nat) : Int))) = rV x := by
        rw [eV2, show (rV PP ++ [V.int (((enc c).1 : Nat) : Int)] ++ rV (enc c).2.1 ++ rV (flatR ((enc c).2.2.take j))) ++ (V.int ((x.length : Nat) : Int) :: (rV x ++ (rV (flatR ((enc c).2.2.drop (j + 1))) ++ rV RR))) = ((rV PP ++ [V.int (((enc c).1 : Nat) : Int)] ++ rV (enc c).2.1 ++ rV (flatR ((enc c).2.2.take j))) ++ [V.int ((x.length : Nat) : Int)]) ++ rV x ++ (rV (flatR ((enc c).2.2.drop (j + 1))) ++ rV RR) by simp]
        exact cut_mid _ _ _ (by rw [List.length_append, la]; simp) (by rw [List.length_append, la]; simp)
      refine ⟨_, rfl, .inl ⟨rfl, _, SqL.of e5⟩, _, rfl, _, rfl, _, _, rfl, rfl, _, rfl, _, rfl, _, _, rfl, rfl, _, rfl, _, rfl, a, _, _, _, rfl, rfl, hS5, at5, _, _, rfl, rfl, _, rfl, a, _, rfl, hS5, fun q5 hq5 => ?_⟩
      rw [ec5]
      have s6 : Same H5 (upd H5 q5 (.lst (rV x))) := Same.new hq5
      have e6 : upd H5 q5 (.lst (rV x)) q5 = some (.lst (rV x)) := upd_same
      have n6 : q5 ≠ ra := fun z => by rw [z, e5] at hq5; cases hq5
      generalize upd H5 q5 (.lst (rV x)) = H6 at s6 e6
      have las : as.length ≤ 3 := by rw [Paired.len r5, List.length_take]; omega
      refine ⟨ra, _, _, rfl, rfl, s6 _ _ e5, lt_size (by simp; omega), ?_⟩
      have hraH : H3 ra = none := hra
      have s7 : Same H3 (upd H6 ra (.lst (as.map V.ref ++ [V.ref q5]))) := Same.put (s5.trans s6) hraH
      have hS7 := keep (sl3.trans (SameL.of s7))
      refine ⟨_, rfl, _, rfl, _, rfl, a, _, _, _, rfl, rfl, hS7, at5, _, _, rfl, rfl, _, _, rfl, rfl, ?_⟩
      refine ⟨some (.int (0 + ((j : Nat) : Int))), as ++ [q5], ?_, s7, by rw [upd_same]; simp, ?_⟩
      · show [_, _, _, _, _, _, _, _, _] = _
        rw [ev, fap]
        congr 4
        simp [flatR]
        omega
      · rw [ev]
        exact Paired.snoc ⟨by rw [upd_ne n6]; exact e6, n6⟩ (Paired.mapP r5 fun _ _ ⟨h1, h2⟩ => ⟨by rw [upd_ne h2]; exact s6 _ _ h1, h2⟩)
    · rintro σ H5 ⟨x7, as, rfl, s5, e5, r5⟩
      rw [List.take_length] at r5 ⊢
      have sl5 := sl3.trans (SameL.of s5)
      have ro : RowsH H5 ra (enc c).2.2 := ⟨as, e5, Paired.mapP r5 fun _ _ z => z.1, fun r hr => by have := hrw r hr; omega⟩
      have pj5 := (pj2.same s3).same s5
      have ps := playedC_snoc Vbjbaj.initialState pre c
      have pa2 : playedC Vbjbaj.initialState cs = playedC Vbjbaj.initialState (pre ++ [c]) ++ playedC (stateC Vbjbaj.initialState (pre ++ [c])) post := by
        rw [← playedC_app, ecs]
        simp
      have lt1 : (PyFlat.told (playedC Vbjbaj.initialState (pre ++ [c]))).length ≤ 10000000 := by
        rw [pa2, told_app, List.length_append] at hlen
        omega
      rw [ps, told_app, told_one, List.length_append, List.length_cons] at lt1
      have ok2 := pj2.1
      have tne : pre ≠ [] → PyFlat.told (playedC Vbjbaj.initialState pre) ≠ [] := fun h => by
        cases pre with
        | nil => exact absurd rfl h
        | cons a r =>
          show PyFlat.told ((Vbjbaj.step Vbjbaj.initialState a).2 :: playedC (Vbjbaj.step Vbjbaj.initialState a).1 r) ≠ []
          unfold PyFlat.told
          rw [List.flatMap_cons]
          simp
      have n5 : PjN A H5 pa (stateC Vbjbaj.initialState pre) fl := by
        by_cases cp : pre = []
        · exact (pn2 cp).same (s3.trans s5)
        · exact pjN_of pj5 (s5 _ _ (s3 _ _ hf2)) (tne cp)
      refine ⟨_, rfl, _, rfl, _, rfl, _, rfl, pa, q, ra, fl, stateC Vbjbaj.initialState pre, c, rfl, s5 _ _ e3, pj5, rs2, ro, by omega, ?_, ?_, fun H6 r pa' ra' sl6 fr6 hr pj6 pn6 e6 => ?_⟩
      · exact ⟨_, s5 _ _ (s3 _ _ hf2)⟩
      · exact fun _ => n5
      refine ⟨r, _, rfl, SqT.of hr, rfl, _, _, rfl, _, _, rfl, rfl, ?_⟩
      have f6 := (sl6 _ _).1 (s5 _ _ (s3 _ _ hf2))
      refine ⟨_, rfl, .inl ⟨rfl, _, SqL.of f6⟩, _, rfl, ra', _, rfl, .inl (SqL.of e6), fl, _, _, rfl, rfl, f6, big_lt (by rw [rV_len]; omega), ?_⟩
      have nra : ra' ≠ fl := fun z => fr6 _ (by rw [z]; exact s5 _ _ (s3 _ _ hf2))
      have g6 : upd H6 fl (.lst (rV (PyFlat.told (playedC Vbjbaj.initialState pre)) ++ [V.int (((rV (Vbjbaj.step (stateC Vbjbaj.initialState pre) c).2).length : Nat) : Int)])) ra' = some (.lst (rV (Vbjbaj.step (stateC Vbjbaj.initialState pre) c).2)) := by rw [upd_ne nra]; exact e6
      refine ⟨_, rfl, .inl ⟨rfl, _, SqL.of upd_same⟩, _, rfl, fl, ra', _, _, rfl, rfl, upd_same, g6, ?_, ?_⟩
      · rw [List.length_append, rV_len, rV_len]
        exact Nat.le_of_lt (big_lt (by show _ + 1 + _ ≤ _; omega))
      · have n6 : PjN A H6 pa' (Vbjbaj.step (stateC Vbjbaj.initialState pre) c).1 fl := by
          by_cases cp : pre = []
          · exact pn6 (by rw [cp]; rfl)
          · exact pjN_of pj6 f6 (tne cp)
        have n7 := (n6.put (ys := rV (PyFlat.told (playedC Vbjbaj.initialState pre)) ++ [V.int (((rV (Vbjbaj.step (stateC Vbjbaj.initialState pre) c).2).length : Nat) : Int)]) f6).put (ys := rV (PyFlat.told (playedC Vbjbaj.initialState pre)) ++ [V.int (((rV (Vbjbaj.step (stateC Vbjbaj.initialState pre) c).2).length : Nat) : Int)] ++ rV (Vbjbaj.step (stateC Vbjbaj.initialState pre) c).2) upd_same
        have flH : H fl = none := s1.free hfl
        have sl7 : SameL H (upd (upd H6 fl (.lst (rV (PyFlat.told (playedC Vbjbaj.initialState pre)) ++ [V.int (((rV (Vbjbaj.step (stateC Vbjbaj.initialState pre) c).2).length : Nat) : Int)]))) fl (.lst (rV (PyFlat.told (playedC Vbjbaj.initialState pre)) ++ [V.int (((rV (Vbjbaj.step (stateC Vbjbaj.initialState pre) c).2).length : Nat) : Int)] ++ rV (Vbjbaj.step (stateC Vbjbaj.initialState pre) c).2))) := by
          have sl6' := sl5.trans sl6
          intro z zs
          refine ⟨fun e => ?_, fun e => ?_, fun o u e => ?_⟩
          · rw [upd_ne (ne_of_none e flH), upd_ne (ne_of_none e flH)]; exact (sl6' _ _).1 e
          · rw [upd_ne (ne_of_none e flH), upd_ne (ne_of_none e flH)]; exact (sl6' _ _).2.1 e
          · rw [upd_ne (ne_of_none e flH), upd_ne (ne_of_none e flH)]; exact (sl6' _ zs).2.2 _ _ e
        refine ⟨post.length, by simp, pre ++ [c], post, pa', some (.int (((enc c).1 : Nat) : Int)), some (.ref q), some (.ref ra), x7, some (.ref ra'), ?_, by rw [ecs]; simp, rfl, sl7, ?_, ?_, ?_, fun z => by simp at z⟩
        · show [_, _, _, _, _, _, _, _, _] = _
          congr 4
          rw [List.flatMap_append, eP]
          show some (V.int _) = some (V.int _)
          congr 2
          simp [eE]
          omega
        · rw [upd_same, ps, told_app, told_one]
          simp [rV]
        · rw [stateC_snoc]
          obtain ⟨dx', df', kd', bl', q1, _⟩ := n7
          exact ⟨pj6.1, dx', df', kd', bl', q1⟩
        · rw [stateC_snoc]
          exact rs_step ok2 rs2 c
end
end Sf
/-! W32: what the top has written. -/
namespace Sf
open PySem PySem.Spec PyProof.Rows L2
theorem exm_own {K : PySem.W.Frag} {S : Addr} (h1 : PySem.W.subIn K (.ref S) (.type "BaseException") = some true) (h2 : PySem.W.isClsIn K S = true) (h3 : PySem.W.typeIn K (.ref S) = some (.type "type")) (h4 : PySem.W.subIn K (.ref S) (.ref S) = some true) :
    PySem.W.exmOne K (.ref S) (.ref S) = some true := by
  have e1 : (PySem.W.subIn K (.ref S) (.type "BaseException") == some true) = true := by rw [h1] <;> rfl
  have e2 : ((PySem.W.clsIn K S).isSome && PySem.W.typeIn K (.ref S) == some (.type "type")) = true := by
    have h2' : (PySem.W.clsIn K S).isSome = true := h2
    rw [h2', h3] <;> rfl
  show (if (PySem.W.subIn K (.ref S) (.type "BaseException") == some true) = true then (if ((PySem.W.clsIn K S).isSome && PySem.W.typeIn K (.ref S) == some (.type "type")) = true then PySem.W.subIn K (.ref S) (.ref S) else none) else none) = some true
  rw [if_pos e1, if_pos e2]
  exact h4
theorem txt_mk {K : PySem.W.Frag} {h : Heap} {mg : Str → Option Value} {CF CP CR fF0 fP0 fP1 fP2 fP3 fP4 fR0 aN aW aR f_tokens_of f_next_numbers f_paths_from f_seen f_statements_seen f_joined f_key f_with_imports f_rows_of f_needed f_is_enough f_rings f_flow_path f_cut f_need f_listed f_flat f_with_file f_without_file f_visible f_seers f_path f_relevant f_source f_read f_read_all f_reasons f_touched f_all_rings f_check_second f_cut_told f_check_cut f_undo f_summary f_of_changes f_of_file f_done f_answer_of f_answers : Addr} (X : K.In h) (G : h.Ns mainGlobals mg)
    {odF0 anF0 : Option Addr} {slF0 : Array (Option Value)} {ocF0 dcF0 kVF0 pmF0 cdF0 ctF0 : Value}
    {odP0 anP0 : Option Addr} {slP0 : Array (Option Value)} {ocP0 dcP0 kVP0 pmP0 cdP0 ctP0 : Value}
    {odP1 anP1 : Option Addr} {slP1 : Array (Option Value)} {ocP1 dcP1 kVP1 pmP1 cdP1 ctP1 : Value}
    {odP2 anP2 : Option Addr} {slP2 : Array (Option Value)} {ocP2 dcP2 kVP2 pmP2 cdP2 ctP2 : Value}
    {odP3 anP3 : Option Addr} {slP3 : Array (Option Value)} {ocP3 dcP3 kVP3 pmP3 cdP3 ctP3 : Value}
    {odP4 anP4 : Option Addr} {slP4 : Array (Option Value)} {ocP4 dcP4 kVP4 pmP4 cdP4 ctP4 : Value}
    {odR0 anR0 : Option Addr} {slR0 : Array (Option Value)} {ocR0 dcR0 kVR0 pmR0 cdR0 ctR0 : Value}
    {nm q : Str} {NR : Addr} {bs : List Value} {sn : List Str} {sub : List Value} {ab : Bool} {col : Option Bool} {dd : Option Addr} {m0 m1 m2 m3 m5 : Option Value}
    {tn0 tn1 tn2 tn3 tn4 tn5 tn6 tn7 tn8 tn9 tn10 tn11 tn12 tn13 tn14 tn15 tn16 tn17 tn18 tn19 tn20 tn21 tw0 tw1 tw2 tw3 tw4 tw5 tw6 tw7 tw8 tw9 tw10 tw11 tw12 tw13 tw14 tw15 tr0 tr1 tr2 tr3 tr4 tr5 t9 t12 t60 t20 : Tok} {nN nW nR : Nat} {sN sW : Array (Option Value)}
    {od_tokens_of an_tokens_of : Option Addr} {sl_tokens_of : Array (Option Value)} {oc_tokens_of dc_tokens_of kV_tokens_of pm_tokens_of cd_tokens_of ct_tokens_of : Value}
    {od_next_numbers an_next_numbers : Option Addr} {sl_next_numbers : Array (Option Value)} {oc_next_numbers dc_next_numbers kV_next_numbers pm_next_numbers cd_next_numbers ct_next_numbers : Value}
    {od_paths_from an_paths_from : Option Addr} {sl_paths_from : Array (Option Value)} {oc_paths_from dc_paths_from kV_paths_from pm_paths_from cd_paths_from ct_paths_from : Value}
    {od_seen an_seen : Option Addr} {sl_seen : Array (Option Value)} {oc_seen dc_seen kV_seen pm_seen cd_seen ct_seen : Value}
    {od_statements_seen an_statements_seen : Option Addr} {sl_statements_seen : Array (Option Value)} {oc_statements_seen dc_statements_seen kV_statements_seen pm_statements_seen cd_statements_seen ct_statements_seen : Value}
    {od_joined an_joined : Option Addr} {sl_joined : Array (Option Value)} {oc_joined dc_joined kV_joined pm_joined cd_joined ct_joined : Value}
    {od_key an_key : Option Addr} {sl_key : Array (Option Value)} {oc_key dc_key kV_key pm_key cd_key ct_key : Value}
    {od_with_imports an_with_imports : Option Addr} {sl_with_imports : Array (Option Value)} {oc_with_imports dc_with_imports kV_with_imports pm_with_imports cd_with_imports ct_with_imports : Value}
    {od_rows_of an_rows_of : Option Addr} {sl_rows_of : Array (Option Value)} {oc_rows_of dc_rows_of kV_rows_of pm_rows_of cd_rows_of ct_rows_of : Value}
    {od_needed an_needed : Option Addr} {sl_needed : Array (Option Value)} {oc_needed dc_needed kV_needed pm_needed cd_needed ct_needed : Value}
    {od_is_enough an_is_enough : Option Addr} {sl_is_enough : Array (Option Value)} {oc_is_enough dc_is_enough kV_is_enough pm_is_enough cd_is_enough ct_is_enough : Value}
    {od_rings an_rings : Option Addr} {sl_rings : Array (Option Value)} {oc_rings dc_rings kV_rings pm_rings cd_rings ct_rings : Value}
    {od_flow_path an_flow_path : Option Addr} {sl_flow_path : Array (Option Value)} {oc_flow_path dc_flow_path kV_flow_path pm_flow_path cd_flow_path ct_flow_path : Value}
    {od_cut an_cut : Option Addr} {sl_cut : Array (Option Value)} {oc_cut dc_cut kV_cut pm_cut cd_cut ct_cut : Value}
    {od_need an_need : Option Addr} {sl_need : Array (Option Value)} {oc_need dc_need kV_need pm_need cd_need ct_need : Value}
    {od_listed an_listed : Option Addr} {sl_listed : Array (Option Value)} {oc_listed dc_listed kV_listed pm_listed cd_listed ct_listed : Value}
    {od_flat an_flat : Option Addr} {sl_flat : Array (Option Value)} {oc_flat dc_flat kV_flat pm_flat cd_flat ct_flat : Value}
    {od_with_file an_with_file : Option Addr} {sl_with_file : Array (Option Value)} {oc_with_file dc_with_file kV_with_file pm_with_file cd_with_file ct_with_file : Value}
    {od_without_file an_without_file : Option Addr} {sl_without_file : Array (Option Value)} {oc_without_file dc_without_file kV_without_file pm_without_file cd_without_file ct_without_file : Value}
    {od_visible an_visible : Option Addr} {sl_visible : Array (Option Value)} {oc_visible dc_visible kV_visible pm_visible cd_visible ct_visible : Value}
    {od_seers an_seers : Option Addr} {sl_seers : Array (Option Value)} {oc_seers dc_seers kV_seers pm_seers cd_seers ct_seers : Value}
    {od_path an_path : Option Addr} {sl_path : Array (Option Value)} {oc_path dc_path kV_path pm_path cd_path ct_path : Value}
    {od_relevant an_relevant : Option Addr} {sl_relevant : Array (Option Value)} {oc_relevant dc_relevant kV_relevant pm_relevant cd_relevant ct_relevant : Value}
    {od_source an_source : Option Addr} {sl_source : Array (Option Value)} {oc_source dc_source kV_source pm_source cd_source ct_source : Value}
    {od_read an_read : Option Addr} {sl_read : Array (Option Value)} {oc_read dc_read kV_read pm_read cd_read ct_read : Value}
    {od_read_all an_read_all : Option Addr} {sl_read_all : Array (Option Value)} {oc_read_all dc_read_all kV_read_all pm_read_all cd_read_all ct_read_all : Value}
    {od_reasons an_reasons : Option Addr} {sl_reasons : Array (Option Value)} {oc_reasons dc_reasons kV_reasons pm_reasons cd_reasons ct_reasons : Value}
    {od_touched an_touched : Option Addr} {sl_touched : Array (Option Value)} {oc_touched dc_touched kV_touched pm_touched cd_touched ct_touched : Value}
    {od_all_rings an_all_rings : Option Addr} {sl_all_rings : Array (Option Value)} {oc_all_rings dc_all_rings kV_all_rings pm_all_rings cd_all_rings ct_all_rings : Value}
    {od_check_second an_check_second : Option Addr} {sl_check_second : Array (Option Value)} {oc_check_second dc_check_second kV_check_second pm_check_second cd_check_second ct_check_second : Value}
    {od_cut_told an_cut_told : Option Addr} {sl_cut_told : Array (Option Value)} {oc_cut_told dc_cut_told kV_cut_told pm_cut_told cd_cut_told ct_cut_told : Value}
    {od_check_cut an_check_cut : Option Addr} {sl_check_cut : Array (Option Value)} {oc_check_cut dc_check_cut kV_check_cut pm_check_cut cd_check_cut ct_check_cut : Value}
    {od_undo an_undo : Option Addr} {sl_undo : Array (Option Value)} {oc_undo dc_undo kV_undo pm_undo cd_undo ct_undo : Value}
    {od_summary an_summary : Option Addr} {sl_summary : Array (Option Value)} {oc_summary dc_summary kV_summary pm_summary cd_summary ct_summary : Value}
    {od_of_changes an_of_changes : Option Addr} {sl_of_changes : Array (Option Value)} {oc_of_changes dc_of_changes kV_of_changes pm_of_changes cd_of_changes ct_of_changes : Value}
    {od_of_file an_of_file : Option Addr} {sl_of_file : Array (Option Value)} {oc_of_file dc_of_file kV_of_file pm_of_file cd_of_file ct_of_file : Value}
    {od_done an_done : Option Addr} {sl_done : Array (Option Value)} {oc_done dc_done kV_done pm_done cd_done ct_done : Value}
    {od_answer_of an_answer_of : Option Addr} {sl_answer_of : Array (Option Value)} {oc_answer_of dc_answer_of kV_answer_of pm_answer_of cd_answer_of ct_answer_of : Value}
    {od_answers an_answers : Option Addr} {sl_answers : Array (Option Value)} {oc_answers dc_answers kV_answers pm_answers cd_answers ct_answers : Value}
    (aCF : PySem.W.nsIn K mainGlobals "File" = some (some (.ref CF)))
    (aCP : PySem.W.nsIn K mainGlobals "Project" = some (some (.ref CP)))
    (aCR : PySem.W.nsIn K mainGlobals "Refused" = some (some (.ref CR)))
    (pgCF : PySem.W.plainGet K CF Str.empty = true)
    (hdCF : PySem.W.hasDictIn K CF = true)
    (poCF : PySem.W.plainOver K CF = true)
    (saCF : PySem.W.findIn K (.ref CF) "__setattr__" = some (some (.builtin "object.__setattr__")))
    (mkCF : PySem.W.makesIn K CF = true)
    (kcCF : PySem.W.keepIn K (.ref CF) = true)
    (pgCP : PySem.W.plainGet K CP Str.empty = true)
    (hdCP : PySem.W.hasDictIn K CP = true)
    (poCP : PySem.W.plainOver K CP = true)
    (saCP : PySem.W.findIn K (.ref CP) "__setattr__" = some (some (.builtin "object.__setattr__")))
    (mkCP : PySem.W.makesIn K CP = true)
    (kcCP : PySem.W.keepIn K (.ref CP) = true)
    (nFimports : PySem.W.findIn K (.ref CF) "imports" = some none)
    (nFstatements : PySem.W.findIn K (.ref CF) "statements" = some none)
    (nFtext : PySem.W.findIn K (.ref CF) "text" = some none)
    (nPtokens : PySem.W.findIn K (.ref CP) "tokens" = some none)
    (nPfiles : PySem.W.findIn K (.ref CP) "files" = some none)
    (nPkept : PySem.W.findIn K (.ref CP) "kept" = some none)
    (nPbefore : PySem.W.findIn K (.ref CP) "before" = some none)
    (aF0 : PySem.W.findIn K (.ref CF) "__init__" = some (some (.ref fF0)))
    (iF0 : PySem.W.isFn K (.ref fF0) = true)
    (lF0 : K.lookup fF0 = some ⟨ocF0, odF0, .func (PySem.W.fnOf "__init__" "File.__init__" (defArgs s_File_init) (defBody s_File_init) (defScope s_File_init) .none kVF0 dcF0 pmF0 anF0 cdF0 ctF0), slF0⟩)
    (cF0 : PySem.W.codeIn K cdF0 "File.__init__" = true)
    (kF0 : PySem.W.keepIn K (.ref fF0) = true)
    (aP0 : PySem.W.findIn K (.ref CP) "__init__" = some (some (.ref fP0)))
    (iP0 : PySem.W.isFn K (.ref fP0) = true)
    (lP0 : K.lookup fP0 = some ⟨ocP0, odP0, .func (PySem.W.fnOf "__init__" "Project.__init__" (defArgs s_Project_init) (defBody s_Project_init) (defScope s_Project_init) .none kVP0 dcP0 pmP0 anP0 cdP0 ctP0), slP0⟩)
    (cP0 : PySem.W.codeIn K cdP0 "Project.__init__" = true)
    (kP0 : PySem.W.keepIn K (.ref fP0) = true)
    (aP1 : PySem.W.findIn K (.ref CP) "pending" = some (some (.ref fP1)))
    (iP1 : PySem.W.isFn K (.ref fP1) = true)
    (lP1 : K.lookup fP1 = some ⟨ocP1, odP1, .func (PySem.W.fnOf "pending" "Project.pending" (defArgs s_Project_pending) (defBody s_Project_pending) (defScope s_Project_pending) .none kVP1 dcP1 pmP1 anP1 cdP1 ctP1), slP1⟩)
    (cP1 : PySem.W.codeIn K cdP1 "Project.pending" = true)
    (kP1 : PySem.W.keepIn K (.ref fP1) = true)
    (aP2 : PySem.W.findIn K (.ref CP) "change" = some (some (.ref fP2)))
    (iP2 : PySem.W.isFn K (.ref fP2) = true)
    (lP2 : K.lookup fP2 = some ⟨ocP2, odP2, .func (PySem.W.fnOf "change" "Project.change" (defArgs s_Project_change) (defBody s_Project_change) (defScope s_Project_change) .none kVP2 dcP2 pmP2 anP2 cdP2 ctP2), slP2⟩)
    (cP2 : PySem.W.codeIn K cdP2 "Project.change" = true)
    (kP2 : PySem.W.keepIn K (.ref fP2) = true)
    (aP3 : PySem.W.findIn K (.ref CP) "is_statement" = some (some (.ref fP3)))
    (iP3 : PySem.W.isFn K (.ref fP3) = true)
    (lP3 : K.lookup fP3 = some ⟨ocP3, odP3, .func (PySem.W.fnOf "is_statement" "Project.is_statement" (defArgs s_Project_is_statement) (defBody s_Project_is_statement) (defScope s_Project_is_statement) .none kVP3 dcP3 pmP3 anP3 cdP3 ctP3), slP3⟩)
    (cP3 : PySem.W.codeIn K cdP3 "Project.is_statement" = true)
    (kP3 : PySem.W.keepIn K (.ref fP3) = true)
    (aP4 : PySem.W.findIn K (.ref CP) "file" = some (some (.ref fP4)))
    (iP4 : PySem.W.isFn K (.ref fP4) = true)
    (lP4 : K.lookup fP4 = some ⟨ocP4, odP4, .func (PySem.W.fnOf "file" "Project.file" (defArgs s_Project_file) (defBody s_Project_file) (defScope s_Project_file) .none kVP4 dcP4 pmP4 anP4 cdP4 ctP4), slP4⟩)
    (cP4 : PySem.W.codeIn K cdP4 "Project.file" = true)
    (kP4 : PySem.W.keepIn K (.ref fP4) = true)
    (aR0 : PySem.W.findIn K (.ref CR) "__init__" = some (some (.ref fR0)))
    (tR0 : PySem.W.typeIn K (.ref fR0) = some (.type "function"))
    (lR0 : K.lookup fR0 = some ⟨ocR0, odR0, .func (PySem.W.fnOf "__init__" "Refused.__init__" (defArgs s_Refused_init) (defBody s_Refused_init) (defScope s_Refused_init) .none kVR0 dcR0 pmR0 anR0 cdR0 ctR0), slR0⟩)
    (cR0 : PySem.W.codeIn K cdR0 "Refused.__init__" = true)
    (kR0 : PySem.W.keepIn K (.ref fR0) = true)
    (xR : K.lookup CR = some (PySem.excClassObj nm q CR NR bs [.type "ValueError", .type "Exception", .type "BaseException", .type "object"] true sn sub ab col dd m0 m1 m2 m3 m5 "ValueError.__new__"))
    (saR : PySem.W.findIn K (.ref CR) "__setattr__" = some (some (.builtin "object.__setattr__")))
    (gaR : PySem.W.findIn K (.ref CR) "__getattribute__" = some (some (.builtin "BaseException.__getattribute__")))
    (ggR : PySem.W.findIn K (.ref CR) "__getattr__" = some none)
    (ncR : PySem.W.findIn K (.ref CR) "code" = some none)
    (kcR : PySem.W.keepIn K (.ref CR) = true)
    (eCR : PySem.W.subIn K (.ref CR) (.type "BaseException") = some true)
    (tCR : PySem.W.typeIn K (.ref CR) = some (.type "type"))
    (hCR : PySem.W.hasDictIn K CR = true)
    (iCR : PySem.W.isClsIn K CR = true)
    (sCR : PySem.W.subIn K (.ref CR) (.ref CR) = some true)
    (gN : PySem.W.nsIn K mainGlobals "NUMBERS" = some (some (.ref aN)))
    (lN : K.lookup aN = some ⟨.type "list", none, .seq #[.int 1 tn0, .int 1 tn1, .int 1 tn2, .int 1 tn3, .int 1 tn4, .int 2 tn5, .int 1 tn6, .int 1 tn7, .int 4 tn8, .int 0 tn9, .int 1 tn10, .int 0 tn11, .int 1 tn12, .int 1 tn13, .int 1 tn14, .int 1 tn15, .int 2 tn16, .int 0 tn17, .int 2 tn18, .int 2 tn19, .int 0 tn20, .int 0 tn21] nN, sN⟩)
    (gW : PySem.W.nsIn K mainGlobals "WITH_NUMBER" = some (some (.ref aW)))
    (lW : K.lookup aW = some ⟨.type "tuple", none, .seq #[.int 1 tw0, .int 2 tw1, .int 3 tw2, .int 4 tw3, .int 5 tw4, .int 6 tw5, .int 7 tw6, .int 8 tw7, .int 10 tw8, .int 12 tw9, .int 13 tw10, .int 14 tw11, .int 15 tw12, .int 16 tw13, .int 18 tw14, .int 19 tw15] nW, sW⟩)
    (gRo : PySem.W.nsIn K mainGlobals "ROWS" = some (some (.ref aR)))
    (lRo : K.lookup aR = some ⟨.type "dict", none, .dict #[⟨1, .int 1 tr0, .int 3 tr1⟩, ⟨13, .int 13 tr2, .int 3 tr3⟩, ⟨19, .int 19 tr4, .int 1 tr5⟩] nR, #[]⟩)
    (zRo : (aR == sysModules) = false)
    (gMOST_NUMBER : PySem.W.nsIn K mainGlobals "MOST_NUMBER" = some (some (.int 9 t9)))
    (gMOST_STATEMENTS : PySem.W.nsIn K mainGlobals "MOST_STATEMENTS" = some (some (.int 12 t12)))
    (gMOST_TEXT : PySem.W.nsIn K mainGlobals "MOST_TEXT" = some (some (.int 60 t60)))
    (gMOST_UNDO : PySem.W.nsIn K mainGlobals "MOST_UNDO" = some (some (.int 20 t20)))
    (zlen : PySem.W.nsIn K mainGlobals "len" = some none)
    (zsorted : PySem.W.nsIn K mainGlobals "sorted" = some none)
    (zany : PySem.W.nsIn K mainGlobals "any" = some none)
    (zall : PySem.W.nsIn K mainGlobals "all" = some none)
    (zmin : PySem.W.nsIn K mainGlobals "min" = some none)
    (zlist : PySem.W.nsIn K mainGlobals "list" = some none)
    (ztuple : PySem.W.nsIn K mainGlobals "tuple" = some none)
    (zdict : PySem.W.nsIn K mainGlobals "dict" = some none)
    (zrange : PySem.W.nsIn K mainGlobals "range" = some none)
    (a_tokens_of : PySem.W.nsIn K mainGlobals "tokens_of" = some (some (.ref f_tokens_of)))
    (l_tokens_of : K.lookup f_tokens_of = some ⟨oc_tokens_of, od_tokens_of, .func (PySem.W.fnOf "tokens_of" "tokens_of" (defArgs s_tokens_of) (defBody s_tokens_of) (defScope s_tokens_of) .none kV_tokens_of dc_tokens_of pm_tokens_of an_tokens_of cd_tokens_of ct_tokens_of), sl_tokens_of⟩)
    (c_tokens_of : PySem.W.codeIn K cd_tokens_of "tokens_of" = true)
    (k_tokens_of : PySem.W.keepIn K (.ref f_tokens_of) = true)
    (a_next_numbers : PySem.W.nsIn K mainGlobals "next_numbers" = some (some (.ref f_next_numbers)))
    (l_next_numbers : K.lookup f_next_numbers = some ⟨oc_next_numbers, od_next_numbers, .func (PySem.W.fnOf "next_numbers" "next_numbers" (defArgs s_next_numbers) (defBody s_next_numbers) (defScope s_next_numbers) .none kV_next_numbers dc_next_numbers pm_next_numbers an_next_numbers cd_next_numbers ct_next_numbers), sl_next_numbers⟩)
    (c_next_numbers : PySem.W.codeIn K cd_next_numbers "next_numbers" = true)
    (k_next_numbers : PySem.W.keepIn K (.ref f_next_numbers) = true)
    (a_paths_from : PySem.W.nsIn K mainGlobals "paths_from" = some (some (.ref f_paths_from)))
    (l_paths_from : K.lookup f_paths_from = some ⟨oc_paths_from, od_paths_from, .func (PySem.W.fnOf "paths_from" "paths_from" (defArgs s_paths_from) (defBody s_paths_from) (defScope s_paths_from) .none kV_paths_from dc_paths_from pm_paths_from an_paths_from cd_paths_from ct_paths_from), sl_paths_from⟩)
    (c_paths_from : PySem.W.codeIn K cd_paths_from "paths_from" = true)
    (k_paths_from : PySem.W.keepIn K (.ref f_paths_from) = true)
    (a_seen : PySem.W.nsIn K mainGlobals "seen" = some (some (.ref f_seen)))
    (l_seen : K.lookup f_seen = some ⟨oc_seen, od_seen, .func (PySem.W.fnOf "seen" "seen" (defArgs s_seen) (defBody s_seen) (defScope s_seen) .none kV_seen dc_seen pm_seen an_seen cd_seen ct_seen), sl_seen⟩)
    (c_seen : PySem.W.codeIn K cd_seen "seen" = true)
    (k_seen : PySem.W.keepIn K (.ref f_seen) = true)
    (a_statements_seen : PySem.W.nsIn K mainGlobals "statements_seen" = some (some (.ref f_statements_seen)))
    (l_statements_seen : K.lookup f_statements_seen = some ⟨oc_statements_seen, od_statements_seen, .func (PySem.W.fnOf "statements_seen" "statements_seen" (defArgs s_statements_seen) (defBody s_statements_seen) (defScope s_statements_seen) .none kV_statements_seen dc_statements_seen pm_statements_seen an_statements_seen cd_statements_seen ct_statements_seen), sl_statements_seen⟩)
    (c_statements_seen : PySem.W.codeIn K cd_statements_seen "statements_seen" = true)
    (k_statements_seen : PySem.W.keepIn K (.ref f_statements_seen) = true)
    (a_joined : PySem.W.nsIn K mainGlobals "joined" = some (some (.ref f_joined)))
    (l_joined : K.lookup f_joined = some ⟨oc_joined, od_joined, .func (PySem.W.fnOf "joined" "joined" (defArgs s_joined) (defBody s_joined) (defScope s_joined) .none kV_joined dc_joined pm_joined an_joined cd_joined ct_joined), sl_joined⟩)
    (c_joined : PySem.W.codeIn K cd_joined "joined" = true)
    (k_joined : PySem.W.keepIn K (.ref f_joined) = true)
    (a_key : PySem.W.nsIn K mainGlobals "key" = some (some (.ref f_key)))
    (l_key : K.lookup f_key = some ⟨oc_key, od_key, .func (PySem.W.fnOf "key" "key" (defArgs s_key) (defBody s_key) (defScope s_key) .none kV_key dc_key pm_key an_key cd_key ct_key), sl_key⟩)
    (c_key : PySem.W.codeIn K cd_key "key" = true)
    (k_key : PySem.W.keepIn K (.ref f_key) = true)
    (a_with_imports : PySem.W.nsIn K mainGlobals "with_imports" = some (some (.ref f_with_imports)))
    (l_with_imports : K.lookup f_with_imports = some ⟨oc_with_imports, od_with_imports, .func (PySem.W.fnOf "with_imports" "with_imports" (defArgs s_with_imports) (defBody s_with_imports) (defScope s_with_imports) .none kV_with_imports dc_with_imports pm_with_imports an_with_imports cd_with_imports ct_with_imports), sl_with_imports⟩)
    (c_with_imports : PySem.W.codeIn K cd_with_imports "with_imports" = true)
    (k_with_imports : PySem.W.keepIn K (.ref f_with_imports) = true)
    (a_rows_of : PySem.W.nsIn K mainGlobals "rows_of" = some (some (.ref f_rows_of)))
    (l_rows_of : K.lookup f_rows_of = some ⟨oc_rows_of, od_rows_of, .func (PySem.W.fnOf "rows_of" "rows_of" (defArgs s_rows_of) (defBody s_rows_of) (defScope s_rows_of) .none kV_rows_of dc_rows_of pm_rows_of an_rows_of cd_rows_of ct_rows_of), sl_rows_of⟩)
    (c_rows_of : PySem.W.codeIn K cd_rows_of "rows_of" = true)
    (k_rows_of : PySem.W.keepIn K (.ref f_rows_of) = true)
    (a_needed : PySem.W.nsIn K mainGlobals "needed" = some (some (.ref f_needed)))
    (l_needed : K.lookup f_needed = some ⟨oc_needed, od_needed, .func (PySem.W.fnOf "needed" "needed" (defArgs s_needed) (defBody s_needed) (defScope s_needed) .none kV_needed dc_needed pm_needed an_needed cd_needed ct_needed), sl_needed⟩)
    (c_needed : PySem.W.codeIn K cd_needed "needed" = true)
    (k_needed : PySem.W.keepIn K (.ref f_needed) = true)
    (a_is_enough : PySem.W.nsIn K mainGlobals "is_enough" = some (some (.ref f_is_enough)))
    (l_is_enough : K.lookup f_is_enough = some ⟨oc_is_enough, od_is_enough, .func (PySem.W.fnOf "is_enough" "is_enough" (defArgs s_is_enough) (defBody s_is_enough) (defScope s_is_enough) .none kV_is_enough dc_is_enough pm_is_enough an_is_enough cd_is_enough ct_is_enough), sl_is_enough⟩)
    (c_is_enough : PySem.W.codeIn K cd_is_enough "is_enough" = true)
    (k_is_enough : PySem.W.keepIn K (.ref f_is_enough) = true)
    (a_rings : PySem.W.nsIn K mainGlobals "rings" = some (some (.ref f_rings)))
    (l_rings : K.lookup f_rings = some ⟨oc_rings, od_rings, .func (PySem.W.fnOf "rings" "rings" (defArgs s_rings) (defBody s_rings) (defScope s_rings) .none kV_rings dc_rings pm_rings an_rings cd_rings ct_rings), sl_rings⟩)
    (c_rings : PySem.W.codeIn K cd_rings "rings" = true)
    (k_rings : PySem.W.keepIn K (.ref f_rings) = true)
    (a_flow_path : PySem.W.nsIn K mainGlobals "flow_path" = some (some (.ref f_flow_path)))
    (l_flow_path : K.lookup f_flow_path = some ⟨oc_flow_path, od_flow_path, .func (PySem.W.fnOf "flow_path" "flow_path" (defArgs s_flow_path) (defBody s_flow_path) (defScope s_flow_path) .none kV_flow_path dc_flow_path pm_flow_path an_flow_path cd_flow_path ct_flow_path), sl_flow_path⟩)
    (c_flow_path : PySem.W.codeIn K cd_flow_path "flow_path" = true)
    (k_flow_path : PySem.W.keepIn K (.ref f_flow_path) = true)
    (a_cut : PySem.W.nsIn K mainGlobals "cut" = some (some (.ref f_cut)))
    (l_cut : K.lookup f_cut = some ⟨oc_cut, od_cut, .func (PySem.W.fnOf "cut" "cut" (defArgs s_cut) (defBody s_cut) (defScope s_cut) .none kV_cut dc_cut pm_cut an_cut cd_cut ct_cut), sl_cut⟩)
    (c_cut : PySem.W.codeIn K cd_cut "cut" = true)
    (k_cut : PySem.W.keepIn K (.ref f_cut) = true)
    (a_need : PySem.W.nsIn K mainGlobals "need" = some (some (.ref f_need)))
    (l_need : K.lookup f_need = some ⟨oc_need, od_need, .func (PySem.W.fnOf "need" "need" (defArgs s_need) (defBody s_need) (defScope s_need) .none kV_need dc_need pm_need an_need cd_need ct_need), sl_need⟩)
    (c_need : PySem.W.codeIn K cd_need "need" = true)
    (k_need : PySem.W.keepIn K (.ref f_need) = true)
    (a_listed : PySem.W.nsIn K mainGlobals "listed" = some (some (.ref f_listed)))
    (l_listed : K.lookup f_listed = some ⟨oc_listed, od_listed, .func (PySem.W.fnOf "listed" "listed" (defArgs s_listed) (defBody s_listed) (defScope s_listed) .none kV_listed dc_listed pm_listed an_listed cd_listed ct_listed), sl_listed⟩)
    (c_listed : PySem.W.codeIn K cd_listed "listed" = true)
    (k_listed : PySem.W.keepIn K (.ref f_listed) = true)
    (a_flat : PySem.W.nsIn K mainGlobals "flat" = some (some (.ref f_flat)))
    (l_flat : K.lookup f_flat = some ⟨oc_flat, od_flat, .func (PySem.W.fnOf "flat" "flat" (defArgs s_flat) (defBody s_flat) (defScope s_flat) .none kV_flat dc_flat pm_flat an_flat cd_flat ct_flat), sl_flat⟩)
    (c_flat : PySem.W.codeIn K cd_flat "flat" = true)
    (k_flat : PySem.W.keepIn K (.ref f_flat) = true)
    (a_with_file : PySem.W.nsIn K mainGlobals "with_file" = some (some (.ref f_with_file)))
    (l_with_file : K.lookup f_with_file = some ⟨oc_with_file, od_with_file, .func (PySem.W.fnOf "with_file" "with_file" (defArgs s_with_file) (defBody s_with_file) (defScope s_with_file) .none kV_with_file dc_with_file pm_with_file an_with_file cd_with_file ct_with_file), sl_with_file⟩)
    (c_with_file : PySem.W.codeIn K cd_with_file "with_file" = true)
    (k_with_file : PySem.W.keepIn K (.ref f_with_file) = true)
    (a_without_file : PySem.W.nsIn K mainGlobals "without_file" = some (some (.ref f_without_file)))
    (l_without_file : K.lookup f_without_file = some ⟨oc_without_file, od_without_file, .func (PySem.W.fnOf "without_file" "without_file" (defArgs s_without_file) (defBody s_without_file) (defScope s_without_file) .none kV_without_file dc_without_file pm_without_file an_without_file cd_without_file ct_without_file), sl_without_file⟩)
    (c_without_file : PySem.W.codeIn K cd_without_file "without_file" = true)
    (k_without_file : PySem.W.keepIn K (.ref f_without_file) = true)
    (a_visible : PySem.W.nsIn K mainGlobals "visible" = some (some (.ref f_visible)))
    (l_visible : K.lookup f_visible = some ⟨oc_visible, od_visible, .func (PySem.W.fnOf "visible" "visible" (defArgs s_visible) (defBody s_visible) (defScope s_visible) .none kV_visible dc_visible pm_visible an_visible cd_visible ct_visible), sl_visible⟩)
    (c_visible : PySem.W.codeIn K cd_visible "visible" = true)
    (k_visible : PySem.W.keepIn K (.ref f_visible) = true)
    (a_seers : PySem.W.nsIn K mainGlobals "seers" = some (some (.ref f_seers)))
    (l_seers : K.lookup f_seers = some ⟨oc_seers, od_seers, .func (PySem.W.fnOf "seers" "seers" (defArgs s_seers) (defBody s_seers) (defScope s_seers) .none kV_seers dc_seers pm_seers an_seers cd_seers ct_seers), sl_seers⟩)
    (c_seers : PySem.W.codeIn K cd_seers "seers" = true)
    (k_seers : PySem.W.keepIn K (.ref f_seers) = true)
    (a_path : PySem.W.nsIn K mainGlobals "path" = some (some (.ref f_path)))
    (l_path : K.lookup f_path = some ⟨oc_path, od_path, .func (PySem.W.fnOf "path" "path" (defArgs s_path) (defBody s_path) (defScope s_path) .none kV_path dc_path pm_path an_path cd_path ct_path), sl_path⟩)
    (c_path : PySem.W.codeIn K cd_path "path" = true)
    (k_path : PySem.W.keepIn K (.ref f_path) = true)
    (a_relevant : PySem.W.nsIn K mainGlobals "relevant" = some (some (.ref f_relevant)))
    (l_relevant : K.lookup f_relevant = some ⟨oc_relevant, od_relevant, .func (PySem.W.fnOf "relevant" "relevant" (defArgs s_relevant) (defBody s_relevant) (defScope s_relevant) .none kV_relevant dc_relevant pm_relevant an_relevant cd_relevant ct_relevant), sl_relevant⟩)
    (c_relevant : PySem.W.codeIn K cd_relevant "relevant" = true)
    (k_relevant : PySem.W.keepIn K (.ref f_relevant) = true)
    (a_source : PySem.W.nsIn K mainGlobals "source" = some (some (.ref f_source)))
    (l_source : K.lookup f_source = some ⟨oc_source, od_source, .func (PySem.W.fnOf "source" "source" (defArgs s_source) (defBody s_source) (defScope s_source) .none kV_source dc_source pm_source an_source cd_source ct_source), sl_source⟩)
    (c_source : PySem.W.codeIn K cd_source "source" = true)
    (k_source : PySem.W.keepIn K (.ref f_source) = true)
    (a_read : PySem.W.nsIn K mainGlobals "read" = some (some (.ref f_read)))
    (l_read : K.lookup f_read = some ⟨oc_read, od_read, .func (PySem.W.fnOf "read" "read" (defArgs s_read) (defBody s_read) (defScope s_read) .none kV_read dc_read pm_read an_read cd_read ct_read), sl_read⟩)
    (c_read : PySem.W.codeIn K cd_read "read" = true)
    (k_read : PySem.W.keepIn K (.ref f_read) = true)
    (a_read_all : PySem.W.nsIn K mainGlobals "read_all" = some (some (.ref f_read_all)))
    (l_read_all : K.lookup f_read_all = some ⟨oc_read_all, od_read_all, .func (PySem.W.fnOf "read_all" "read_all" (defArgs s_read_all) (defBody s_read_all) (defScope s_read_all) .none kV_read_all dc_read_all pm_read_all an_read_all cd_read_all ct_read_all), sl_read_all⟩)
    (c_read_all : PySem.W.codeIn K cd_read_all "read_all" = true)
    (k_read_all : PySem.W.keepIn K (.ref f_read_all) = true)
    (a_reasons : PySem.W.nsIn K mainGlobals "reasons" = some (some (.ref f_reasons)))
    (l_reasons : K.lookup f_reasons = some ⟨oc_reasons, od_reasons, .func (PySem.W.fnOf "reasons" "reasons" (defArgs s_reasons) (defBody s_reasons) (defScope s_reasons) .none kV_reasons dc_reasons pm_reasons an_reasons cd_reasons ct_reasons), sl_reasons⟩)
    (c_reasons : PySem.W.codeIn K cd_reasons "reasons" = true)
    (k_reasons : PySem.W.keepIn K (.ref f_reasons) = true)
    (a_touched : PySem.W.nsIn K mainGlobals "touched" = some (some (.ref f_touched)))
    (l_touched : K.lookup f_touched = some ⟨oc_touched, od_touched, .func (PySem.W.fnOf "touched" "touched" (defArgs s_touched) (defBody s_touched) (defScope s_touched) .none kV_touched dc_touched pm_touched an_touched cd_touched ct_touched), sl_touched⟩)
    (c_touched : PySem.W.codeIn K cd_touched "touched" = true)
    (k_touched : PySem.W.keepIn K (.ref f_touched) = true)
    (a_all_rings : PySem.W.nsIn K mainGlobals "all_rings" = some (some (.ref f_all_rings)))
    (l_all_rings : K.lookup f_all_rings = some ⟨oc_all_rings, od_all_rings, .func (PySem.W.fnOf "all_rings" "all_rings" (defArgs s_all_rings) (defBody s_all_rings) (defScope s_all_rings) .none kV_all_rings dc_all_rings pm_all_rings an_all_rings cd_all_rings ct_all_rings), sl_all_rings⟩)
    (c_all_rings : PySem.W.codeIn K cd_all_rings "all_rings" = true)
    (k_all_rings : PySem.W.keepIn K (.ref f_all_rings) = true)
    (a_check_second : PySem.W.nsIn K mainGlobals "check_second" = some (some (.ref f_check_second)))
    (l_check_second : K.lookup f_check_second = some ⟨oc_check_second, od_check_second, .func (PySem.W.fnOf "check_second" "check_second" (defArgs s_check_second) (defBody s_check_second) (defScope s_check_second) .none kV_check_second dc_check_second pm_check_second an_check_second cd_check_second ct_check_second), sl_check_second⟩)
    (c_check_second : PySem.W.codeIn K cd_check_second "check_second" = true)
    (k_check_second : PySem.W.keepIn K (.ref f_check_second) = true)
    (a_cut_told : PySem.W.nsIn K mainGlobals "cut_told" = some (some (.ref f_cut_told)))
    (l_cut_told : K.lookup f_cut_told = some ⟨oc_cut_told, od_cut_told, .func (PySem.W.fnOf "cut_told" "cut_told" (defArgs s_cut_told) (defBody s_cut_told) (defScope s_cut_told) .none kV_cut_told dc_cut_told pm_cut_told an_cut_told cd_cut_told ct_cut_told), sl_cut_told⟩)
    (c_cut_told : PySem.W.codeIn K cd_cut_told "cut_told" = true)
    (k_cut_told : PySem.W.keepIn K (.ref f_cut_told) = true)
    (a_check_cut : PySem.W.nsIn K mainGlobals "check_cut" = some (some (.ref f_check_cut)))
    (l_check_cut : K.lookup f_check_cut = some ⟨oc_check_cut, od_check_cut, .func (PySem.W.fnOf "check_cut" "check_cut" (defArgs s_check_cut) (defBody s_check_cut) (defScope s_check_cut) .none kV_check_cut dc_check_cut pm_check_cut an_check_cut cd_check_cut ct_check_cut), sl_check_cut⟩)
    (c_check_cut : PySem.W.codeIn K cd_check_cut "check_cut" = true)
    (k_check_cut : PySem.W.keepIn K (.ref f_check_cut) = true)
    (a_undo : PySem.W.nsIn K mainGlobals "undo" = some (some (.ref f_undo)))
    (l_undo : K.lookup f_undo = some ⟨oc_undo, od_undo, .func (PySem.W.fnOf "undo" "undo" (defArgs s_undo) (defBody s_undo) (defScope s_undo) .none kV_undo dc_undo pm_undo an_undo cd_undo ct_undo), sl_undo⟩)
    (c_undo : PySem.W.codeIn K cd_undo "undo" = true)
    (k_undo : PySem.W.keepIn K (.ref f_undo) = true)
    (a_summary : PySem.W.nsIn K mainGlobals "summary" = some (some (.ref f_summary)))
    (l_summary : K.lookup f_summary = some ⟨oc_summary, od_summary, .func (PySem.W.fnOf "summary" "summary" (defArgs s_summary) (defBody s_summary) (defScope s_summary) .none kV_summary dc_summary pm_summary an_summary cd_summary ct_summary), sl_summary⟩)
    (c_summary : PySem.W.codeIn K cd_summary "summary" = true)
    (k_summary : PySem.W.keepIn K (.ref f_summary) = true)
    (a_of_changes : PySem.W.nsIn K mainGlobals "of_changes" = some (some (.ref f_of_changes)))
    (l_of_changes : K.lookup f_of_changes = some ⟨oc_of_changes, od_of_changes, .func (PySem.W.fnOf "of_changes" "of_changes" (defArgs s_of_changes) (defBody s_of_changes) (defScope s_of_changes) .none kV_of_changes dc_of_changes pm_of_changes an_of_changes cd_of_changes ct_of_changes), sl_of_changes⟩)
    (c_of_changes : PySem.W.codeIn K cd_of_changes "of_changes" = true)
    (k_of_changes : PySem.W.keepIn K (.ref f_of_changes) = true)
    (a_of_file : PySem.W.nsIn K mainGlobals "of_file" = some (some (.ref f_of_file)))
    (l_of_file : K.lookup f_of_file = some ⟨oc_of_file, od_of_file, .func (PySem.W.fnOf "of_file" "of_file" (defArgs s_of_file) (defBody s_of_file) (defScope s_of_file) .none kV_of_file dc_of_file pm_of_file an_of_file cd_of_file ct_of_file), sl_of_file⟩)
    (c_of_file : PySem.W.codeIn K cd_of_file "of_file" = true)
    (k_of_file : PySem.W.keepIn K (.ref f_of_file) = true)
    (a_done : PySem.W.nsIn K mainGlobals "done" = some (some (.ref f_done)))
    (l_done : K.lookup f_done = some ⟨oc_done, od_done, .func (PySem.W.fnOf "done" "done" (defArgs s_done) (defBody s_done) (defScope s_done) .none kV_done dc_done pm_done an_done cd_done ct_done), sl_done⟩)
    (c_done : PySem.W.codeIn K cd_done "done" = true)
    (k_done : PySem.W.keepIn K (.ref f_done) = true)
    (a_answer_of : PySem.W.nsIn K mainGlobals "answer_of" = some (some (.ref f_answer_of)))
    (l_answer_of : K.lookup f_answer_of = some ⟨oc_answer_of, od_answer_of, .func (PySem.W.fnOf "answer_of" "answer_of" (defArgs s_answer_of) (defBody s_answer_of) (defScope s_answer_of) .none kV_answer_of dc_answer_of pm_answer_of an_answer_of cd_answer_of ct_answer_of), sl_answer_of⟩)
    (c_answer_of : PySem.W.codeIn K cd_answer_of "answer_of" = true)
    (k_answer_of : PySem.W.keepIn K (.ref f_answer_of) = true)
    (a_answers : PySem.W.nsIn K mainGlobals "answers" = some (some (.ref f_answers)))
    (l_answers : K.lookup f_answers = some ⟨oc_answers, od_answers, .func (PySem.W.fnOf "answers" "answers" (defArgs s_answers) (defBody s_answers) (defScope s_answers) .none kV_answers dc_answers pm_answers an_answers cd_answers ct_answers), sl_answers⟩)
    (c_answers : PySem.W.codeIn K cd_answers "answers" = true)
    (k_answers : PySem.W.keepIn K (.ref f_answers) = true)
    : Txt K mg ⟨CF, CP, CR, aN, aR, aW⟩ ∧ RowsE K aR ∧ (aR == sysModules) = false ∧ Fun K "answers" "answers" s_answers f_answers (PySem.W.fnOf "answers" "answers" (defArgs s_answers) (defBody s_answers) (defScope s_answers) .none kV_answers dc_answers pm_answers an_answers cd_answers ct_answers) := by
  have FF0 := fun_mk (st := s_File_init) lF0 cF0 kF0
  have bF0 := FF0.binds (ps := ["self", "imports", "statements", "text"]) fun _ _ _ _ _ _ us hl => match us, hl with | [_, _, _, _], _ => rfl
  have FP0 := fun_mk (st := s_Project_init) lP0 cP0 kP0
  have bP0 := FP0.binds (ps := ["self", "tokens"]) fun _ _ _ _ _ _ us hl => match us, hl with | [_, _], _ => rfl
  have FP1 := fun_mk (st := s_Project_pending) lP1 cP1 kP1
  have bP1 := FP1.binds (ps := ["self", "files"]) fun _ _ _ _ _ _ us hl => match us, hl with | [_, _], _ => rfl
  have FP2 := fun_mk (st := s_Project_change) lP2 cP2 kP2
  have bP2 := FP2.binds (ps := ["self", "files"]) fun _ _ _ _ _ _ us hl => match us, hl with | [_, _], _ => rfl
  have FP3 := fun_mk (st := s_Project_is_statement) lP3 cP3 kP3
  have bP3 := FP3.binds (ps := ["self", "kind", "form", "other"]) fun _ _ _ _ _ _ us hl => match us, hl with | [_, _, _, _], _ => rfl
  have FP4 := fun_mk (st := s_Project_file) lP4 cP4 kP4
  have bP4 := FP4.binds (ps := ["self", "rows"]) fun _ _ _ _ _ _ us hl => match us, hl with | [_, _], _ => rfl
  have FR0 := fun_mk (st := s_Refused_init) lR0 cR0 kR0
  have bR0 := FR0.binds (ps := ["self", "code"]) fun _ _ _ _ _ _ us hl => match us, hl with | [_, _], _ => rfl
  have F_tokens_of := fun_mk (st := s_tokens_of) l_tokens_of c_tokens_of k_tokens_of
  have b_tokens_of := F_tokens_of.binds (ps := ["statement"]) fun _ _ _ _ _ _ us hl => match us, hl with | [_], _ => rfl
  have F_next_numbers := fun_mk (st := s_next_numbers) l_next_numbers c_next_numbers k_next_numbers
  have b_next_numbers := F_next_numbers.binds (ps := ["files", "number", "left"]) fun _ _ _ _ _ _ us hl => match us, hl with | [_, _, _], _ => rfl
  have F_paths_from := fun_mk (st := s_paths_from) l_paths_from c_paths_from k_paths_from
  have b_paths_from := F_paths_from.binds (ps := ["files", "number", "left"]) fun _ _ _ _ _ _ us hl => match us, hl with | [_, _, _], _ => rfl
  have F_seen := fun_mk (st := s_seen) l_seen c_seen k_seen
  have b_seen := F_seen.binds (ps := ["files", "number"]) fun _ _ _ _ _ _ us hl => match us, hl with | [_, _], _ => rfl
  have F_statements_seen := fun_mk (st := s_statements_seen) l_statements_seen c_statements_seen k_statements_seen
  have b_statements_seen := F_statements_seen.binds (ps := ["files", "number"]) fun _ _ _ _ _ _ us hl => match us, hl with | [_, _], _ => rfl
  have F_joined := fun_mk (st := s_joined) l_joined c_joined k_joined
  have b_joined := F_joined.binds (ps := ["files", "number"]) fun _ _ _ _ _ _ us hl => match us, hl with | [_, _], _ => rfl
  have F_key := fun_mk (st := s_key) l_key c_key k_key
  have b_key := F_key.binds (ps := ["files", "number"]) fun _ _ _ _ _ _ us hl => match us, hl with | [_, _], _ => rfl
  have F_with_imports := fun_mk (st := s_with_imports) l_with_imports c_with_imports k_with_imports
  have b_with_imports := F_with_imports.binds (ps := ["files", "number", "imports"]) fun _ _ _ _ _ _ us hl => match us, hl with | [_, _, _], _ => rfl
  have F_rows_of := fun_mk (st := s_rows_of) l_rows_of c_rows_of k_rows_of
  have b_rows_of := F_rows_of.binds (ps := ["items", "size"]) fun _ _ _ _ _ _ us hl => match us, hl with | [_, _], _ => rfl
  have F_needed := fun_mk (st := s_needed) l_needed c_needed k_needed
  have b_needed := F_needed.binds (ps := ["files", "number"]) fun _ _ _ _ _ _ us hl => match us, hl with | [_, _], _ => rfl
  have F_is_enough := fun_mk (st := s_is_enough) l_is_enough c_is_enough k_is_enough
  have b_is_enough := F_is_enough.binds (ps := ["files", "keys", "number"]) fun _ _ _ _ _ _ us hl => match us, hl with | [_, _, _], _ => rfl
  have F_rings := fun_mk (st := s_rings) l_rings c_rings k_rings
  have b_rings := F_rings.binds (ps := ["files"]) fun _ _ _ _ _ _ us hl => match us, hl with | [_], _ => rfl
  have F_flow_path := fun_mk (st := s_flow_path) l_flow_path c_flow_path k_flow_path
  have b_flow_path := F_flow_path.binds (ps := ["files", "used", "first", "last"]) fun _ _ _ _ _ _ us hl => match us, hl with | [_, _, _, _], _ => rfl
  have F_cut := fun_mk (st := s_cut) l_cut c_cut k_cut
  have b_cut := F_cut.binds (ps := ["files", "first", "last"]) fun _ _ _ _ _ _ us hl => match us, hl with | [_, _, _], _ => rfl
  have F_need := fun_mk (st := s_need) l_need c_need k_need
  have b_need := F_need.binds (ps := ["is_right", "code"]) fun _ _ _ _ _ _ us hl => match us, hl with | [_, _], _ => rfl
  have F_listed := fun_mk (st := s_listed) l_listed c_listed k_listed
  have b_listed := F_listed.binds (ps := ["some"]) fun _ _ _ _ _ _ us hl => match us, hl with | [_], _ => rfl
  have F_flat := fun_mk (st := s_flat) l_flat c_flat k_flat
  have b_flat := F_flat.binds (ps := ["statements"]) fun _ _ _ _ _ _ us hl => match us, hl with | [_], _ => rfl
  have F_with_file := fun_mk (st := s_with_file) l_with_file c_with_file k_with_file
  have b_with_file := F_with_file.binds (ps := ["project", "number", "rows"]) fun _ _ _ _ _ _ us hl => match us, hl with | [_, _, _], _ => rfl
  have F_without_file := fun_mk (st := s_without_file) l_without_file c_without_file k_without_file
  have b_without_file := F_without_file.binds (ps := ["project", "number"]) fun _ _ _ _ _ _ us hl => match us, hl with | [_, _], _ => rfl
  have F_visible := fun_mk (st := s_visible) l_visible c_visible k_visible
  have b_visible := F_visible.binds (ps := ["project", "number"]) fun _ _ _ _ _ _ us hl => match us, hl with | [_, _], _ => rfl
  have F_seers := fun_mk (st := s_seers) l_seers c_seers k_seers
  have b_seers := F_seers.binds (ps := ["project", "number"]) fun _ _ _ _ _ _ us hl => match us, hl with | [_, _], _ => rfl
  have F_path := fun_mk (st := s_path) l_path c_path k_path
  have b_path := F_path.binds (ps := ["project", "first", "second"]) fun _ _ _ _ _ _ us hl => match us, hl with | [_, _, _], _ => rfl
  have F_relevant := fun_mk (st := s_relevant) l_relevant c_relevant k_relevant
  have b_relevant := F_relevant.binds (ps := ["project", "number"]) fun _ _ _ _ _ _ us hl => match us, hl with | [_, _], _ => rfl
  have F_source := fun_mk (st := s_source) l_source c_source k_source
  have b_source := F_source.binds (ps := ["project", "number", "statement"]) fun _ _ _ _ _ _ us hl => match us, hl with | [_, _, _], _ => rfl
  have F_read := fun_mk (st := s_read) l_read c_read k_read
  have b_read := F_read.binds (ps := ["project", "number"]) fun _ _ _ _ _ _ us hl => match us, hl with | [_, _], _ => rfl
  have F_read_all := fun_mk (st := s_read_all) l_read_all c_read_all k_read_all
  have b_read_all := F_read_all.binds (ps := ["project"]) fun _ _ _ _ _ _ us hl => match us, hl with | [_], _ => rfl
  have F_reasons := fun_mk (st := s_reasons) l_reasons c_reasons k_reasons
  have b_reasons := F_reasons.binds (ps := ["project", "number"]) fun _ _ _ _ _ _ us hl => match us, hl with | [_, _], _ => rfl
  have F_touched := fun_mk (st := s_touched) l_touched c_touched k_touched
  have b_touched := F_touched.binds (ps := ["project", "number", "token"]) fun _ _ _ _ _ _ us hl => match us, hl with | [_, _, _], _ => rfl
  have F_all_rings := fun_mk (st := s_all_rings) l_all_rings c_all_rings k_all_rings
  have b_all_rings := F_all_rings.binds (ps := ["project"]) fun _ _ _ _ _ _ us hl => match us, hl with | [_], _ => rfl
  have F_check_second := fun_mk (st := s_check_second) l_check_second c_check_second k_check_second
  have b_check_second := F_check_second.binds (ps := ["project", "first", "second"]) fun _ _ _ _ _ _ us hl => match us, hl with | [_, _, _], _ => rfl
  have F_cut_told := fun_mk (st := s_cut_told) l_cut_told c_cut_told k_cut_told
  have b_cut_told := F_cut_told.binds (ps := ["project", "first", "second"]) fun _ _ _ _ _ _ us hl => match us, hl with | [_, _, _], _ => rfl
  have F_check_cut := fun_mk (st := s_check_cut) l_check_cut c_check_cut k_check_cut
  have b_check_cut := F_check_cut.binds (ps := ["project", "first", "second", "row"]) fun _ _ _ _ _ _ us hl => match us, hl with | [_, _, _, _], _ => rfl
  have F_undo := fun_mk (st := s_undo) l_undo c_undo k_undo
  have b_undo := F_undo.binds (ps := ["project"]) fun _ _ _ _ _ _ us hl => match us, hl with | [_], _ => rfl
  have F_summary := fun_mk (st := s_summary) l_summary c_summary k_summary
  have b_summary := F_summary.binds (ps := ["project"]) fun _ _ _ _ _ _ us hl => match us, hl with | [_], _ => rfl
  have F_of_changes := fun_mk (st := s_of_changes) l_of_changes c_of_changes k_of_changes
  have b_of_changes := F_of_changes.binds (ps := ["project", "word", "numbers", "rows"]) fun _ _ _ _ _ _ us hl => match us, hl with | [_, _, _, _], _ => rfl
  have F_of_file := fun_mk (st := s_of_file) l_of_file c_of_file k_of_file
  have b_of_file := F_of_file.binds (ps := ["project", "word", "numbers", "rows"]) fun _ _ _ _ _ _ us hl => match us, hl with | [_, _, _, _], _ => rfl
  have F_done := fun_mk (st := s_done) l_done c_done k_done
  have b_done := F_done.binds (ps := ["project", "word", "numbers", "rows"]) fun _ _ _ _ _ _ us hl => match us, hl with | [_, _, _, _], _ => rfl
  have F_answer_of := fun_mk (st := s_answer_of) l_answer_of c_answer_of k_answer_of
  have b_answer_of := F_answer_of.binds (ps := ["project", "word", "numbers", "rows"]) fun _ _ _ _ _ _ us hl => match us, hl with | [_, _, _, _], _ => rfl
  have F_answers := fun_mk (st := s_answers) l_answers c_answers k_answers
  have b_answers := F_answers.binds (ps := ["calls"]) fun _ _ _ _ _ _ us hl => match us, hl with | [_], _ => rfl
  refine ⟨{
    clF := ⟨pgCF, hdCF, poCF, saCF⟩,
    nF_imports := nFimports,
    nF_statements := nFstatements,
    nF_text := nFtext,
    mkF := ⟨PySem.W.mg_of X G aCF, fF0, _, ⟨mkCF, aF0, iF0, kcCF⟩, FF0, bF0⟩,
    clP := ⟨pgCP, hdCP, poCP, saCP⟩,
    nP_tokens := nPtokens,
    nP_files := nPfiles,
    nP_kept := nPkept,
    nP_before := nPbefore,
    mkP := ⟨PySem.W.mg_of X G aCP, fP0, _, ⟨mkCP, aP0, iP0, kcCP⟩, FP0, bP0⟩,
    m_pending := ⟨fP1, _, ⟨aP1, iP1, kP1⟩, FP1, bP1⟩,
    m_change := ⟨fP2, _, ⟨aP2, iP2, kP2⟩, FP2, bP2⟩,
    m_is_statement := ⟨fP3, _, ⟨aP3, iP3, kP3⟩, FP3, bP3⟩,
    m_file := ⟨fP4, _, ⟨aP4, iP4, kP4⟩, FP4, bP4⟩,
    gR := PySem.W.mg_of X G aCR,
    oR := ⟨⟨nm, q, NR, bs, _, sn, sub, ab, col, dd, m0, m1, m2, m3, m5, xR, by decide +kernel⟩, saR, eCR, tCR, kcR⟩,
    xR := ⟨gaR, ggR, eCR, hCR⟩,
    nR_code := ncR,
    iR := ⟨fR0, _, aR0, tR0, FR0, bR0⟩,
    teR := exm_own eCR iCR tCR sCR,
    nums := .inr ⟨_, _, _, lN, rfl, rfl, rfl, by show 22 ≤ sizeLine; decide, .cons ⟨_, rfl⟩ (.cons ⟨_, rfl⟩ (.cons ⟨_, rfl⟩ (.cons ⟨_, rfl⟩ (.cons ⟨_, rfl⟩ (.cons ⟨_, rfl⟩ (.cons ⟨_, rfl⟩ (.cons ⟨_, rfl⟩ (.cons ⟨_, rfl⟩ (.cons ⟨_, rfl⟩ (.cons ⟨_, rfl⟩ (.cons ⟨_, rfl⟩ (.cons ⟨_, rfl⟩ (.cons ⟨_, rfl⟩ (.cons ⟨_, rfl⟩ (.cons ⟨_, rfl⟩ (.cons ⟨_, rfl⟩ (.cons ⟨_, rfl⟩ (.cons ⟨_, rfl⟩ (.cons ⟨_, rfl⟩ (.cons ⟨_, rfl⟩ (.cons ⟨_, rfl⟩ (.nil))))))))))))))))))))))⟩,
    withn := .inr ⟨_, _, _, lW, rfl, rfl, by show 16 ≤ sizeLine; decide, .cons ⟨_, rfl⟩ (.cons ⟨_, rfl⟩ (.cons ⟨_, rfl⟩ (.cons ⟨_, rfl⟩ (.cons ⟨_, rfl⟩ (.cons ⟨_, rfl⟩ (.cons ⟨_, rfl⟩ (.cons ⟨_, rfl⟩ (.cons ⟨_, rfl⟩ (.cons ⟨_, rfl⟩ (.cons ⟨_, rfl⟩ (.cons ⟨_, rfl⟩ (.cons ⟨_, rfl⟩ (.cons ⟨_, rfl⟩ (.cons ⟨_, rfl⟩ (.cons ⟨_, rfl⟩ (.nil))))))))))))))))⟩,
    rowsD := ⟨_, _, _, _, _, _, _, _, lRo⟩,
    c_MOST_NUMBER := ⟨_, PySem.W.mg_of X G gMOST_NUMBER, _, rfl⟩,
    c_MOST_STATEMENTS := ⟨_, PySem.W.mg_of X G gMOST_STATEMENTS, _, rfl⟩,
    c_MOST_TEXT := ⟨_, PySem.W.mg_of X G gMOST_TEXT, _, rfl⟩,
    c_MOST_UNDO := ⟨_, PySem.W.mg_of X G gMOST_UNDO, _, rfl⟩,
    c_NUMBERS := ⟨_, PySem.W.mg_of X G gN, rfl⟩,
    c_ROWS := ⟨_, PySem.W.mg_of X G gRo, rfl⟩,
    c_WITH_NUMBER := ⟨_, PySem.W.mg_of X G gW, rfl⟩,
    b_len := PySem.W.mg_none_of X G zlen,
    b_sorted := PySem.W.mg_none_of X G zsorted,
    b_any := PySem.W.mg_none_of X G zany,
    b_all := PySem.W.mg_none_of X G zall,
    b_min := PySem.W.mg_none_of X G zmin,
    b_list := PySem.W.mg_none_of X G zlist,
    b_tuple := PySem.W.mg_none_of X G ztuple,
    b_dict := PySem.W.mg_none_of X G zdict,
    b_range := PySem.W.mg_none_of X G zrange,
    d_tokens_of := ⟨f_tokens_of, _, PySem.W.mg_of X G a_tokens_of, F_tokens_of, b_tokens_of⟩,
    d_next_numbers := ⟨f_next_numbers, _, PySem.W.mg_of X G a_next_numbers, F_next_numbers, b_next_numbers⟩,
    d_paths_from := ⟨f_paths_from, _, PySem.W.mg_of X G a_paths_from, F_paths_from, b_paths_from⟩,
    d_seen := ⟨f_seen, _, PySem.W.mg_of X G a_seen, F_seen, b_seen⟩,
    d_statements_seen := ⟨f_statements_seen, _, PySem.W.mg_of X G a_statements_seen, F_statements_seen, b_statements_seen⟩,
    d_joined := ⟨f_joined, _, PySem.W.mg_of X G a_joined, F_joined, b_joined⟩,
    d_key := ⟨f_key, _, PySem.W.mg_of X G a_key, F_key, b_key⟩,
    d_with_imports := ⟨f_with_imports, _, PySem.W.mg_of X G a_with_imports, F_with_imports, b_with_imports⟩,
    d_rows_of := ⟨f_rows_of, _, PySem.W.mg_of X G a_rows_of, F_rows_of, b_rows_of⟩,
    d_needed := ⟨f_needed, _, PySem.W.mg_of X G a_needed, F_needed, b_needed⟩,
    d_is_enough := ⟨f_is_enough, _, PySem.W.mg_of X G a_is_enough, F_is_enough, b_is_enough⟩,
    d_rings := ⟨f_rings, _, PySem.W.mg_of X G a_rings, F_rings, b_rings⟩,
    d_flow_path := ⟨f_flow_path, _, PySem.W.mg_of X G a_flow_path, F_flow_path, b_flow_path⟩,
    d_cut := ⟨f_cut, _, PySem.W.mg_of X G a_cut, F_cut, b_cut⟩,
    d_need := ⟨f_need, _, PySem.W.mg_of X G a_need, F_need, b_need⟩,
    d_listed := ⟨f_listed, _, PySem.W.mg_of X G a_listed, F_listed, b_listed⟩,
    d_flat := ⟨f_flat, _, PySem.W.mg_of X G a_flat, F_flat, b_flat⟩,
    d_with_file := ⟨f_with_file, _, PySem.W.mg_of X G a_with_file, F_with_file, b_with_file⟩,
    d_without_file := ⟨f_without_file, _, PySem.W.mg_of X G a_without_file, F_without_file, b_without_file⟩,
    d_visible := ⟨f_visible, _, PySem.W.mg_of X G a_visible, F_visible, b_visible⟩,
    d_seers := ⟨f_seers, _, PySem.W.mg_of X G a_seers, F_seers, b_seers⟩,
    d_path := ⟨f_path, _, PySem.W.mg_of X G a_path, F_path, b_path⟩,
    d_relevant := ⟨f_relevant, _, PySem.W.mg_of X G a_relevant, F_relevant, b_relevant⟩,
    d_source := ⟨f_source, _, PySem.W.mg_of X G a_source, F_source, b_source⟩,
    d_read := ⟨f_read, _, PySem.W.mg_of X G a_read, F_read, b_read⟩,
    d_read_all := ⟨f_read_all, _, PySem.W.mg_of X G a_read_all, F_read_all, b_read_all⟩,
    d_reasons := ⟨f_reasons, _, PySem.W.mg_of X G a_reasons, F_reasons, b_reasons⟩,
    d_touched := ⟨f_touched, _, PySem.W.mg_of X G a_touched, F_touched, b_touched⟩,
    d_all_rings := ⟨f_all_rings, _, PySem.W.mg_of X G a_all_rings, F_all_rings, b_all_rings⟩,
    d_check_second := ⟨f_check_second, _, PySem.W.mg_of X G a_check_second, F_check_second, b_check_second⟩,
    d_cut_told := ⟨f_cut_told, _, PySem.W.mg_of X G a_cut_told, F_cut_told, b_cut_told⟩,
    d_check_cut := ⟨f_check_cut, _, PySem.W.mg_of X G a_check_cut, F_check_cut, b_check_cut⟩,
    d_undo := ⟨f_undo, _, PySem.W.mg_of X G a_undo, F_undo, b_undo⟩,
    d_summary := ⟨f_summary, _, PySem.W.mg_of X G a_summary, F_summary, b_summary⟩,
    d_of_changes := ⟨f_of_changes, _, PySem.W.mg_of X G a_of_changes, F_of_changes, b_of_changes⟩,
    d_of_file := ⟨f_of_file, _, PySem.W.mg_of X G a_of_file, F_of_file, b_of_file⟩,
    d_done := ⟨f_done, _, PySem.W.mg_of X G a_done, F_done, b_done⟩,
    d_answer_of := ⟨f_answer_of, _, PySem.W.mg_of X G a_answer_of, F_answer_of, b_answer_of⟩,
    d_answers := ⟨f_answers, _, PySem.W.mg_of X G a_answers, F_answers, b_answers⟩ }, ⟨_, _, _, _, _, _, _, lRo⟩, zRo, F_answers⟩
end Sf
/-! W33: all together. -/
namespace Sf
open PySem PySem.Spec PyProof.Rows L2
theorem chain {P : Program} {w : World} {K : PySem.W.Frag} {mg : Str → Option Value} {base : Heap} {A : Ad} (T : Txt K mg A) (R : RowsE K A.rows) (hsr : (A.rows == sysModules) = false) {f : Addr} {fd : FuncData} (F : Fun K "answers" "answers" s_answers f fd) : FnOk P w K mg base CX0 16 f fd ["calls"] (sp_answers K) := by
  have C_tokens_of : Cal P w K mg base CX0 1 "tokens_of" ["statement"] sp_tokens_of := cal_of T.d_tokens_of fun _ _ F => ok_tokens_of  F
  have C_next_numbers : Cal P w K mg base CX0 1 "next_numbers" ["files", "number", "left"] (sp_next_numbers K A) := cal_of T.d_next_numbers fun _ _ F => ok_next_numbers T F
  have C_paths_from : Cal P w K mg base CX0 2 "paths_from" ["files", "number", "left"] (sp_paths_from K A) := cal_of T.d_paths_from fun _ _ F => ok_paths_from T C_next_numbers F
  have C_seen : Cal P w K mg base CX0 3 "seen" ["files", "number"] (sp_seen A) := cal_of T.d_seen fun _ _ F => ok_seen T C_paths_from F
  have C_statements_seen : Cal P w K mg base CX0 4 "statements_seen" ["files", "number"] (sp_statements_seen A) := cal_of T.d_statements_seen fun _ _ F => ok_statements_seen T C_seen F
  have C_joined : Cal P w K mg base CX0 5 "joined" ["files", "number"] (sp_joined A) := cal_of T.d_joined fun _ _ F => ok_joined T C_tokens_of C_statements_seen F
  have C_key : Cal P w K mg base CX0 6 "key" ["files", "number"] (sp_key A) := cal_of T.d_key fun _ _ F => ok_key T C_joined F
  have M_File : MkC P w K mg base 1 "File" A.File ["self", "imports", "statements", "text"] (sp_File_init A) := mk_of T.mkF fun _ _ F => ok_File_init T F
  have C_with_imports : Cal P w K mg base CX0 3 "with_imports" ["files", "number", "imports"] (sp_with_imports A) := cal_of T.d_with_imports fun _ _ F => ok_with_imports T M_File F
  have C_rows_of : Cal P w K mg base CX0 11 "rows_of" ["items", "size"] (sp_rows_of K 11) := cal_rows_of T 11
  have C_is_enough : Cal P w K mg base CX0 7 "is_enough" ["files", "keys", "number"] (sp_is_enough A) := cal_of T.d_is_enough fun _ _ F => ok_is_enough T C_key F
  have C_needed : Cal P w K mg base CX0 12 "needed" ["files", "number"] (sp_needed K A) := cal_of T.d_needed fun _ _ F => ok_needed T C_seen C_key C_rows_of C_with_imports C_is_enough F
  have C_flow_path : Cal P w K mg base CX0 1 "flow_path" ["files", "used", "first", "last"] (sp_flow_path A) := cal_of T.d_flow_path fun _ _ F => ok_flow_path T F
  have C_cut : Cal P w K mg base CX0 2 "cut" ["files", "first", "last"] (sp_cut A) := cal_of T.d_cut fun _ _ F => ok_cut T C_flow_path F
  have C_rings : Cal P w K mg base CX0 4 "rings" ["files"] (sp_rings A) := cal_of T.d_rings fun _ _ F => ok_rings T C_seen F
  have C_need : Cal P w K mg base (L2.CX P w) 3 "need" ["is_right", "code"] (sp_need A) := cal_of T.d_need fun _ _ F => ok_need T F
  have M_pending : MCal P w K mg base CX0 7 A.Project "pending" ["self", "files"] (sp_pending A) := mcal_of T.m_pending fun _ _ F => ok_pending T C_key F
  have C_listed : Cal P w K mg base CX0 1 "listed" ["some"] (sp_listed K) := cal_of T.d_listed fun _ _ F => ok_listed T F
  have C_flat : Cal P w K mg base CX0 1 "flat" ["statements"] (sp_flat K) := cal_of T.d_flat fun _ _ F => ok_flat T F
  have M_is_statement : MCal P w K mg base CX0 1 A.Project "is_statement" ["self", "kind", "form", "other"] (sp_is_statement A) := mcal_of T.m_is_statement fun _ _ F => ok_is_statement T F
  have M_Project : MkC P w K mg base 1 "Project" A.Project ["self", "tokens"] (sp_Project_make A) := mk_of T.mkP fun _ _ F => ok_Project_make T F
  have M_change : MCal P w K mg base CX0 1 A.Project "change" ["self", "files"] (sp_change A) := mcal_of T.m_change fun _ _ F => ok_change T F
  have M_file : MCal P w K mg base (L2.CX P w) 4 A.Project "file" ["self", "rows"] (sp_Project_file A) := mcal_of T.m_file fun _ _ F => ok_Project_file T M_is_statement M_File C_need F
  have C_visible : Cal P w K mg base CX0 3 "visible" ["project", "number"] (sp_visible A) := cal_of T.d_visible fun _ _ F => ok_visible T C_paths_from C_listed F
  have C_seers : Cal P w K mg base CX0 3 "seers" ["project", "number"] (sp_seers A) := cal_of T.d_seers fun _ _ F => ok_seers T C_paths_from C_listed F
  have C_path : Cal P w K mg base (L2.CX P w) 4 "path" ["project", "first", "second"] (sp_path A) := cal_of T.d_path fun _ _ F => ok_path T C_need C_paths_from C_listed F
  have C_relevant : Cal P w K mg base CX0 6 "relevant" ["project", "number"] (sp_relevant A) := cal_of T.d_relevant fun _ _ F => ok_relevant T C_joined C_listed C_flat F
  have C_touched : Cal P w K mg base (L2.CX P w) 6 "touched" ["project", "number", "token"] (sp_touched A) := cal_of T.d_touched fun _ _ F => ok_touched T C_need C_seen C_joined C_listed F
  have C_all_rings : Cal P w K mg base CX0 5 "all_rings" ["project"] (sp_all_rings A) := cal_of T.d_all_rings fun _ _ F => ok_all_rings T C_rings C_listed F
  have C_summary : Cal P w K mg base CX0 8 "summary" ["project"] (sp_summary A) := cal_of T.d_summary fun _ _ F => ok_summary T M_pending F
  have C_check_second : Cal P w K mg base (L2.CX P w) 4 "check_second" ["project", "first", "second"] (sp_check_second A) := cal_of T.d_check_second fun _ _ F => ok_check_second T C_need F
  have C_cut_told : Cal P w K mg base (L2.CX P w) 5 "cut_told" ["project", "first", "second"] (sp_cut_told A) := cal_of T.d_cut_told fun _ _ F => ok_cut_told T C_check_second C_cut C_listed F
  have C_check_cut : Cal P w K mg base (L2.CX P w) 5 "check_cut" ["project", "first", "second", "row"] (sp_check_cut A) := cal_of T.d_check_cut fun _ _ F => ok_check_cut T C_need C_check_second C_paths_from C_listed F
  have C_reasons : Cal P w K mg base CX0 7 "reasons" ["project", "number"] (sp_reasons A) := cal_of T.d_reasons fun _ _ F => ok_reasons T C_key C_flat F
  have C_source : Cal P w K mg base (L2.CX P w) 4 "source" ["project", "number", "statement"] (sp_source K A) := cal_of T.d_source fun _ _ F => ok_source T M_is_statement C_need C_paths_from C_listed F
  have C_with_file : Cal P w K mg base (L2.CX P w) 5 "with_file" ["project", "number", "rows"] (sp_with_file A) := cal_of T.d_with_file fun _ _ F => ok_with_file T M_file F
  have C_without_file : Cal P w K mg base CX0 1 "without_file" ["project", "number"] (sp_without_file A) := cal_of T.d_without_file fun _ _ F => ok_without_file T F
  have C_read : Cal P w K mg base CX0 8 "read" ["project", "number"] (sp_read A) := cal_of T.d_read fun _ _ F => ok_read T M_pending C_key F
  have C_read_all : Cal P w K mg base CX0 8 "read_all" ["project"] (sp_read_all A) := cal_of T.d_read_all fun _ _ F => ok_read_all T M_pending C_key F
  have C_undo : Cal P w K mg base (L2.CX P w) 8 "undo" ["project"] (sp_undo A) := cal_of T.d_undo fun _ _ F => ok_undo T C_need M_pending C_listed F
  have C_of_changes : Cal P w K mg base (L2.CX P w) 8 "of_changes" ["project", "word", "numbers", "rows"] (sp_of_changes A) := cal_of T.d_of_changes fun _ _ F => ok_of_changes T C_with_file C_without_file M_change M_pending C_listed F
  have C_of_file : Cal P w K mg base (L2.CX P w) 13 "of_file" ["project", "word", "numbers", "rows"] (sp_of_file A) := cal_of T.d_of_file fun _ _ F => ok_of_file T C_visible C_seers C_path C_statements_seen C_flat C_relevant C_source C_read C_reasons C_listed C_needed C_touched C_cut_told C_check_cut F
  have C_done : Cal P w K mg base (L2.CX P w) 14 "done" ["project", "word", "numbers", "rows"] (sp_done A) := cal_of T.d_done fun _ _ F => ok_done T C_need C_of_changes M_pending C_listed C_read_all C_all_rings C_undo C_of_file F
  have C_answer_of : Cal P w K mg base CX0 15 "answer_of" ["project", "word", "numbers", "rows"] (sp_answer_of A) := cal_of T.d_answer_of fun _ _ F => ok_answer_of T M_Project C_need C_summary C_done F
  exact ok_answers T R hsr M_Project C_answer_of F
theorem fin_mk {P : Program} {w : World} {K : PySem.W.Frag} {mg : Str → Option Value} {A : Ad} {fa f : Addr} {fd : FuncData} (hfa : mg "answers" = some (.ref fa)) (h : Txt K mg A ∧ RowsE K A.rows ∧ (A.rows == sysModules) = false ∧ Fun K "answers" "answers" s_answers f fd) :
    ∃ fd : FuncData, (∀ (s : Shared) (us : List Value), us.length = (["calls"] : List Str).length → BindsTo s fd ⟨us, []⟩ ((["calls"] : List Str).zip us)) ∧ ∀ base : Heap, K.In base → base.Ns mainGlobals mg → FnOk P w K mg base CX0 16 fa fd ["calls"] (sp_answers K) := by
  obtain ⟨T, R, hsr, _⟩ := h
  obtain ⟨f', fd', hm, F, hb⟩ := T.d_answers
  have e := hfa.symm.trans hm
  cases e
  have G : ∀ base : Heap, FnOk P w K mg base CX0 16 fa fd' ["calls"] (sp_answers K) := fun base => chain T R hsr F
  obtain ⟨oc, od, kV, doc, pm, an, cdv, ct, osl, rfl, lk, hcd⟩ := F.ex
  exact ⟨_, fun s us hu => match us, hu with | [_], _ => .of_eq rfl, fun base _ _ => G base⟩
end Sf
open PySem PySem.W PyProof.Rows
set_option maxHeartbeats 8000000 in
theorem PySem.Challenge.cw_seenfiles_s01_answers_holds : PySem.Challenge.rw_seenfiles_s01_answers.Holds := by
  w_on; k_headS; (case hw => exact ⟨[.list [.int 21]], by decide +kernel, by decide +kernel⟩)
  k_fillS
  refine L2.walk_specK (r := PySem.Challenge.rw_seenfiles_s01_answers) (k := 16) (CX := L2.CX0) (ps := ["calls"]) (sp := Sf.sp_answers) (by decide +kernel) rfl rfl ⟨rfl, by decide, by decide⟩ (fun w h Y => PySem.W.kIn_of Y) ?F ?S (fun _ _ _ _ z => z)
  case F =>
    intro w mg fa h Y KX G hmg
    refine' Sf.fin_mk hmg (Sf.txt_mk KX G ?aCF ?aCP ?aCR ?pgCF ?hdCF ?poCF ?saCF ?mkCF ?kcCF ?pgCP ?hdCP ?poCP ?saCP ?mkCP ?kcCP ?nFimports ?nFstatements ?nFtext ?nPtokens ?nPfiles ?nPkept ?nPbefore ?aF0 ?iF0 ?lF0 ?cF0 ?kF0 ?aP0 ?iP0 ?lP0 ?cP0 ?kP0 ?aP1 ?iP1 ?lP1 ?cP1 ?kP1 ?aP2 ?iP2 ?lP2 ?cP2 ?kP2 ?aP3 ?iP3 ?lP3 ?cP3 ?kP3 ?aP4 ?iP4 ?lP4 ?cP4 ?kP4 ?aR0 ?tR0 ?lR0 ?cR0 ?kR0 ?xR ?saR ?gaR ?ggR ?ncR ?kcR ?eCR ?tCR ?hCR ?iCR ?sCR ?gN ?lN ?gW ?lW ?gRo ?lRo ?zRo ?gMOST_NUMBER ?gMOST_STATEMENTS ?gMOST_TEXT ?gMOST_UNDO ?zlen ?zsorted ?zany ?zall ?zmin ?zlist ?ztuple ?zdict ?zrange ?a_tokens_of ?l_tokens_of ?c_tokens_of ?k_tokens_of ?a_next_numbers ?l_next_numbers ?c_next_numbers ?k_next_numbers ?a_paths_from ?l_paths_from ?c_paths_from ?k_paths_from ?a_seen ?l_seen ?c_seen ?k_seen ?a_statements_seen ?l_statements_seen ?c_statements_seen ?k_statements_seen ?a_joined ?l_joined ?c_joined ?k_joined ?a_key ?l_key ?c_key ?k_key ?a_with_imports ?l_with_imports ?c_with_imports ?k_with_imports ?a_rows_of ?l_rows_of ?c_rows_of ?k_rows_of ?a_needed ?l_needed ?c_needed ?k_needed ?a_is_enough ?l_is_enough ?c_is_enough ?k_is_enough ?a_rings ?l_rings ?c_rings ?k_rings ?a_flow_path ?l_flow_path ?c_flow_path ?k_flow_path ?a_cut ?l_cut ?c_cut ?k_cut ?a_need ?l_need ?c_need ?k_need ?a_listed ?l_listed ?c_listed ?k_listed ?a_flat ?l_flat ?c_flat ?k_flat ?a_with_file ?l_with_file ?c_with_file ?k_with_file ?a_without_file ?l_without_file ?c_without_file ?k_without_file ?a_visible ?l_visible ?c_visible ?k_visible ?a_seers ?l_seers ?c_seers ?k_seers ?a_path ?l_path ?c_path ?k_path ?a_relevant ?l_relevant ?c_relevant ?k_relevant ?a_source ?l_source ?c_source ?k_source ?a_read ?l_read ?c_read ?k_read ?a_read_all ?l_read_all ?c_read_all ?k_read_all ?a_reasons ?l_reasons ?c_reasons ?k_reasons ?a_touched ?l_touched ?c_touched ?k_touched ?a_all_rings ?l_all_rings ?c_all_rings ?k_all_rings ?a_check_second ?l_check_second ?c_check_second ?k_check_second ?a_cut_told ?l_cut_told ?c_cut_told ?k_cut_told ?a_check_cut ?l_check_cut ?c_check_cut ?k_check_cut ?a_undo ?l_undo ?c_undo ?k_undo ?a_summary ?l_summary ?c_summary ?k_summary ?a_of_changes ?l_of_changes ?c_of_changes ?k_of_changes ?a_of_file ?l_of_file ?c_of_file ?k_of_file ?a_done ?l_done ?c_done ?k_done ?a_answer_of ?l_answer_of ?c_answer_of ?k_answer_of ?a_answers ?l_answers ?c_answers ?k_answers)
    (case aCF => k_is)
    (case aCP => k_is)
    (case aCR => k_is)
    (case pgCF => k_is)
    (case hdCF => k_is)
    (case poCF => k_is)
    (case saCF => k_is)
    (case mkCF => k_is)
    (case kcCF => k_is)
    (case pgCP => k_is)
    (case hdCP => k_is)
    (case poCP => k_is)
    (case saCP => k_is)
    (case mkCP => k_is)
    (case kcCP => k_is)
    (case nFimports => k_is)
    (case nFstatements => k_is)
    (case nFtext => k_is)
    (case nPtokens => k_is)
    (case nPfiles => k_is)
    (case nPkept => k_is)
    (case nPbefore => k_is)
    (case aF0 => k_is)
    (case iF0 => k_is)
    (case lF0 => k_is)
    (case cF0 => k_is)
    (case kF0 => k_is)
    (case aP0 => k_is)
    (case iP0 => k_is)
    (case lP0 => k_is)
    (case cP0 => k_is)
    (case kP0 => k_is)
    (case aP1 => k_is)
    (case iP1 => k_is)
    (case lP1 => k_is)
    (case cP1 => k_is)
    (case kP1 => k_is)
    (case aP2 => k_is)
    (case iP2 => k_is)
    (case lP2 => k_is)
    (case cP2 => k_is)
    (case kP2 => k_is)
    (case aP3 => k_is)
    (case iP3 => k_is)
    (case lP3 => k_is)
    (case cP3 => k_is)
    (case kP3 => k_is)
    (case aP4 => k_is)
    (case iP4 => k_is)
    (case lP4 => k_is)
    (case cP4 => k_is)
    (case kP4 => k_is)
    (case aR0 => k_is)
    (case tR0 => k_is)
    (case lR0 => k_is)
    (case cR0 => k_is)
    (case kR0 => k_is)
    (case xR => k_is)
    (case saR => k_is)
    (case gaR => k_is)
    (case ggR => k_is)
    (case ncR => k_is)
    (case kcR => k_is)
    (case eCR => k_is)
    (case tCR => k_is)
    (case hCR => k_is)
    (case iCR => k_is)
    (case sCR => k_is)
    (case gN => k_is)
    (case lN => k_is)
    (case gW => k_is)
    (case lW => k_is)
    (case gRo => k_is)
    (case lRo => k_is)
    (case zRo => decide)
    (case gMOST_NUMBER => k_is)
    (case gMOST_STATEMENTS => k_is)
    (case gMOST_TEXT => k_is)
    (case gMOST_UNDO => k_is)
    (case zlen => k_is)
    (case zsorted => k_is)
    (case zany => k_is)
    (case zall => k_is)
    (case zmin => k_is)
    (case zlist => k_is)
    (case ztuple => k_is)
    (case zdict => k_is)
    (case zrange => k_is)
    (case a_tokens_of => k_is)
    (case l_tokens_of => k_is)
    (case c_tokens_of => k_is)
    (case k_tokens_of => k_is)
    (case a_next_numbers => k_is)
    (case l_next_numbers => k_is)
    (case c_next_numbers => k_is)
    (case k_next_numbers => k_is)
    (case a_paths_from => k_is)
    (case l_paths_from => k_is)
    (case c_paths_from => k_is)
    (case k_paths_from => k_is)
    (case a_seen => k_is)
    (case l_seen => k_is)
    (case c_seen => k_is)
    (case k_seen => k_is)
    (case a_statements_seen => k_is)
    (case l_statements_seen => k_is)
    (case c_statements_seen => k_is)
    (case k_statements_seen => k_is)
    (case a_joined => k_is)
    (case l_joined => k_is)
    (case c_joined => k_is)
    (case k_joined => k_is)
    (case a_key => k_is)
    (case l_key => k_is)
    (case c_key => k_is)
    (case k_key => k_is)
    (case a_with_imports => k_is)
    (case l_with_imports => k_is)
    (case c_with_imports => k_is)
    (case k_with_imports => k_is)
    (case a_rows_of => k_is)
    (case l_rows_of => k_is)
    (case c_rows_of => k_is)
    (case k_rows_of => k_is)
    (case a_needed => k_is)
    (case l_needed => k_is)
    (case c_needed => k_is)
    (case k_needed => k_is)
    (case a_is_enough => k_is)
    (case l_is_enough => k_is)
    (case c_is_enough => k_is)
    (case k_is_enough => k_is)
    (case a_rings => k_is)
    (case l_rings => k_is)
    (case c_rings => k_is)
    (case k_rings => k_is)
    (case a_flow_path => k_is)
    (case l_flow_path => k_is)
    (case c_flow_path => k_is)
    (case k_flow_path => k_is)
    (case a_cut => k_is)
    (case l_cut => k_is)
    (case c_cut => k_is)
    (case k_cut => k_is)
    (case a_need => k_is)
    (case l_need => k_is)
    (case c_need => k_is)
    (case k_need => k_is)
    (case a_listed => k_is)
    (case l_listed => k_is)
    (case c_listed => k_is)
    (case k_listed => k_is)
    (case a_flat => k_is)
    (case l_flat => k_is)
    (case c_flat => k_is)
    (case k_flat => k_is)
    (case a_with_file => k_is)
    (case l_with_file => k_is)
    (case c_with_file => k_is)
    (case k_with_file => k_is)
    (case a_without_file => k_is)
    (case l_without_file => k_is)
    (case c_without_file => k_is)
    (case k_without_file => k_is)
    (case a_visible => k_is)
    (case l_visible => k_is)
    (case c_visible => k_is)
    (case k_visible => k_is)
    (case a_seers => k_is)
    (case l_seers => k_is)
    (case c_seers => k_is)
    (case k_seers => k_is)
    (case a_path => k_is)
    (case l_path => k_is)
    (case c_path => k_is)
    (case k_path => k_is)
    (case a_relevant => k_is)
    (case l_relevant => k_is)
    (case c_relevant => k_is)
    (case k_relevant => k_is)
    (case a_source => k_is)
    (case l_source => k_is)
    (case c_source => k_is)
    (case k_source => k_is)
    (case a_read => k_is)
    (case l_read => k_is)
    (case c_read => k_is)
    (case k_read => k_is)
    (case a_read_all => k_is)
    (case l_read_all => k_is)
    (case c_read_all => k_is)
    (case k_read_all => k_is)
    (case a_reasons => k_is)
    (case l_reasons => k_is)
    (case c_reasons => k_is)
    (case k_reasons => k_is)
    (case a_touched => k_is)
    (case l_touched => k_is)
    (case c_touched => k_is)
    (case k_touched => k_is)
    (case a_all_rings => k_is)
    (case l_all_rings => k_is)
    (case c_all_rings => k_is)
    (case k_all_rings => k_is)
    (case a_check_second => k_is)
    (case l_check_second => k_is)
    (case c_check_second => k_is)
    (case k_check_second => k_is)
    (case a_cut_told => k_is)
    (case l_cut_told => k_is)
    (case c_cut_told => k_is)
    (case k_cut_told => k_is)
    (case a_check_cut => k_is)
    (case l_check_cut => k_is)
    (case c_check_cut => k_is)
    (case k_check_cut => k_is)
    (case a_undo => k_is)
    (case l_undo => k_is)
    (case c_undo => k_is)
    (case k_undo => k_is)
    (case a_summary => k_is)
    (case l_summary => k_is)
    (case c_summary => k_is)
    (case k_summary => k_is)
    (case a_of_changes => k_is)
    (case l_of_changes => k_is)
    (case c_of_changes => k_is)
    (case k_of_changes => k_is)
    (case a_of_file => k_is)
    (case l_of_file => k_is)
    (case c_of_file => k_is)
    (case k_of_file => k_is)
    (case a_done => k_is)
    (case l_done => k_is)
    (case c_done => k_is)
    (case k_done => k_is)
    (case a_answer_of => k_is)
    (case l_answer_of => k_is)
    (case c_answer_of => k_is)
    (case k_answer_of => k_is)
    (case a_answers => k_is)
    (case l_answers => k_is)
    (case c_answers => k_is)
    (case k_answers => k_is)
  case S =>
    intro K H xs a hO hwi hask hx
    cases hx with
    | cons h1 h2 =>
      cases h2
      cases h1 with
      | lst hs ha =>
        have e := L2.ints_dw a.1 _ ha
        subst e
        exact ⟨_, a.1, rfl, hs, hask, fun H' p hp => .lst (L2.SqL.of hp) (L2.dw_ints _)⟩
